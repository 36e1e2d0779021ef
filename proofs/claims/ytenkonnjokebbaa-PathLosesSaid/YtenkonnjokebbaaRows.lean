/-
  No cell of these rows narrows 'for every input' (looked for: loops, veiled, ifaces, maps, wideKeys, modest, calm, conditions, laid).
  DERIVED. THE GIVEN ROWS OF THIS SEAT. 10 by the template 'for every input the law returns true; each argument reads behind the call as it read before'; 0 by the template 'total and deterministic' (their statements: YtenkonnjokebbaaTotals.lean).
  GIVEN WITH THE SEED: the statements are not yours to turn. If you find one false, say at which input.
  Laid BY PROGRAM, IN A SANDBOX (cutbox-rows.mjs): the forced cells as the released guide's own fill.sh prints them over the translation 22dd3e53a34e1127… (all of the seat's roots in one cut). By AI agents, Wed Nov 11 2026. No macro, syntax, notation, axiom, sorry.
-/
import Derived.Test.YtenkonnjokebbaaChecked
import GoSem.Claim
import GoSem.ClaimJoined
import GoSem.ClaimMapViews
import Derived.JoinedTies
import Derived.KernelRfl
namespace Go.Proofs.Ytenkonnjokebbaa
/- THE CELL 'sum', in the pinned program and in every row, IS THE sha256 OF THE DUMP (.gsa) THAT YtenkonnjokebbaaProg.lean LOADS. Nothing in Lean hashes anything: it is a label: what it is worth is what the hold of that sum in a sandbox is worth. -/
noncomputable def Try.pinned : Pinned := { name := "ytenkonnjokebbaa", sum := "22dd3e53a34e11270a0d66c846944f524f09895cd4a45810bafffa60f0dc1ead", checked := Try.checked }
namespace Rows
def none {H : Type} : Left H := { results := [], args := [] }

/-- 'leatlaw13.SegmentDecodes': WHATEVER THE INPUT: true; the input reads as it did. -/
def segmentDecodesSpec : ChangeSpec := { name := "segmentDecodes", fn := fun _ => fun
  | [d1, d2] => { results := [.lit (.bool true)], args := [d1, d2] }
  | _ => none }
def segmentDecodesRow : OpenClaim := { program := "ytenkonnjokebbaa", sum := "22dd3e53a34e11270a0d66c846944f524f09895cd4a45810bafffa60f0dc1ead", func := "leat/leatlaw13.SegmentDecodes", spec := "segmentDecodes", unfollowed := true, recurses := true, apart := false }
def SegmentDecodesSaid : Prop := segmentDecodesRow.holds Try.pinned (OpenSpec.ofChange segmentDecodesSpec)

/-- ITS FALSE NEIGHBOUR: 'it returns false'. Refute it at one input. -/
def segmentDecodesWrong : ChangeSpec := { name := "segmentDecodes", fn := fun _ => fun
  | [d1, d2] => { results := [.lit (.bool false)], args := [d1, d2] }
  | _ => none }
def SegmentDecodesWrongFalsely : Prop := segmentDecodesRow.holds Try.pinned (OpenSpec.ofChange segmentDecodesWrong)

/-- 'leatlaw13.SegmentBack': WHATEVER THE INPUT: true; the input reads as it did. -/
def segmentBackSpec : ChangeSpec := { name := "segmentBack", fn := fun _ => fun
  | [d1, d2] => { results := [.lit (.bool true)], args := [d1, d2] }
  | _ => none }
def segmentBackRow : OpenClaim := { program := "ytenkonnjokebbaa", sum := "22dd3e53a34e11270a0d66c846944f524f09895cd4a45810bafffa60f0dc1ead", func := "leat/leatlaw13.SegmentBack", spec := "segmentBack", unfollowed := true, recurses := true, apart := false }
def SegmentBackSaid : Prop := segmentBackRow.holds Try.pinned (OpenSpec.ofChange segmentBackSpec)

/-- ITS FALSE NEIGHBOUR: 'it returns false'. Refute it at one input. -/
def segmentBackWrong : ChangeSpec := { name := "segmentBack", fn := fun _ => fun
  | [d1, d2] => { results := [.lit (.bool false)], args := [d1, d2] }
  | _ => none }
def SegmentBackWrongFalsely : Prop := segmentBackRow.holds Try.pinned (OpenSpec.ofChange segmentBackWrong)

/-- 'leatlaw13.SegmentTurned': WHATEVER THE INPUT: true; the input reads as it did. -/
def segmentTurnedSpec : ChangeSpec := { name := "segmentTurned", fn := fun _ => fun
  | [d1, d2, d3] => { results := [.lit (.bool true)], args := [d1, d2, d3] }
  | _ => none }
def segmentTurnedRow : OpenClaim := { program := "ytenkonnjokebbaa", sum := "22dd3e53a34e11270a0d66c846944f524f09895cd4a45810bafffa60f0dc1ead", func := "leat/leatlaw13.SegmentTurned", spec := "segmentTurned", unfollowed := true, recurses := true, apart := false }
def SegmentTurnedSaid : Prop := segmentTurnedRow.holds Try.pinned (OpenSpec.ofChange segmentTurnedSpec)

/-- ITS FALSE NEIGHBOUR: 'it returns false'. Refute it at one input. -/
def segmentTurnedWrong : ChangeSpec := { name := "segmentTurned", fn := fun _ => fun
  | [d1, d2, d3] => { results := [.lit (.bool false)], args := [d1, d2, d3] }
  | _ => none }
def SegmentTurnedWrongFalsely : Prop := segmentTurnedRow.holds Try.pinned (OpenSpec.ofChange segmentTurnedWrong)

/-- 'leatlaw13.SegmentEncodes': WHATEVER THE INPUT: true; the input reads as it did. -/
def segmentEncodesSpec : ChangeSpec := { name := "segmentEncodes", fn := fun _ => fun
  | [d1, d2] => { results := [.lit (.bool true)], args := [d1, d2] }
  | _ => none }
def segmentEncodesRow : OpenClaim := { program := "ytenkonnjokebbaa", sum := "22dd3e53a34e11270a0d66c846944f524f09895cd4a45810bafffa60f0dc1ead", func := "leat/leatlaw13.SegmentEncodes", spec := "segmentEncodes", unfollowed := true, recurses := true, apart := false }
def SegmentEncodesSaid : Prop := segmentEncodesRow.holds Try.pinned (OpenSpec.ofChange segmentEncodesSpec)

/-- ITS FALSE NEIGHBOUR: 'it returns false'. Refute it at one input. -/
def segmentEncodesWrong : ChangeSpec := { name := "segmentEncodes", fn := fun _ => fun
  | [d1, d2] => { results := [.lit (.bool false)], args := [d1, d2] }
  | _ => none }
def SegmentEncodesWrongFalsely : Prop := segmentEncodesRow.holds Try.pinned (OpenSpec.ofChange segmentEncodesWrong)

/-- 'leatlaw13.SegmentCuts': WHATEVER THE INPUT: true; the input reads as it did. -/
def segmentCutsSpec : ChangeSpec := { name := "segmentCuts", fn := fun _ => fun
  | [d1, d2, d3] => { results := [.lit (.bool true)], args := [d1, d2, d3] }
  | _ => none }
def segmentCutsRow : OpenClaim := { program := "ytenkonnjokebbaa", sum := "22dd3e53a34e11270a0d66c846944f524f09895cd4a45810bafffa60f0dc1ead", func := "leat/leatlaw13.SegmentCuts", spec := "segmentCuts", unfollowed := true, recurses := true, apart := false }
def SegmentCutsSaid : Prop := segmentCutsRow.holds Try.pinned (OpenSpec.ofChange segmentCutsSpec)

/-- ITS FALSE NEIGHBOUR: 'it returns false'. Refute it at one input. -/
def segmentCutsWrong : ChangeSpec := { name := "segmentCuts", fn := fun _ => fun
  | [d1, d2, d3] => { results := [.lit (.bool false)], args := [d1, d2, d3] }
  | _ => none }
def SegmentCutsWrongFalsely : Prop := segmentCutsRow.holds Try.pinned (OpenSpec.ofChange segmentCutsWrong)

/-- 'leatlaw13.SegmentGathers': WHATEVER THE INPUT: true; the input reads as it did. -/
def segmentGathersSpec : ChangeSpec := { name := "segmentGathers", fn := fun _ => fun
  | [d1, d2] => { results := [.lit (.bool true)], args := [d1, d2] }
  | _ => none }
def segmentGathersRow : OpenClaim := { program := "ytenkonnjokebbaa", sum := "22dd3e53a34e11270a0d66c846944f524f09895cd4a45810bafffa60f0dc1ead", func := "leat/leatlaw13.SegmentGathers", spec := "segmentGathers", unfollowed := true, recurses := true, apart := false }
def SegmentGathersSaid : Prop := segmentGathersRow.holds Try.pinned (OpenSpec.ofChange segmentGathersSpec)

/-- ITS FALSE NEIGHBOUR: 'it returns false'. Refute it at one input. -/
def segmentGathersWrong : ChangeSpec := { name := "segmentGathers", fn := fun _ => fun
  | [d1, d2] => { results := [.lit (.bool false)], args := [d1, d2] }
  | _ => none }
def SegmentGathersWrongFalsely : Prop := segmentGathersRow.holds Try.pinned (OpenSpec.ofChange segmentGathersWrong)

/-- 'leatlaw38.PathFates': WHATEVER THE INPUT: true; the input reads as it did. -/
def pathFatesSpec : ChangeSpec := { name := "pathFates", fn := fun _ => fun
  | [d1, d2, d3] => { results := [.lit (.bool true)], args := [d1, d2, d3] }
  | _ => none }
def pathFatesRow : OpenClaim := { program := "ytenkonnjokebbaa", sum := "22dd3e53a34e11270a0d66c846944f524f09895cd4a45810bafffa60f0dc1ead", func := "leat/leatlaw38.PathFates", spec := "pathFates", unfollowed := true, recurses := true, apart := false }
def PathFatesSaid : Prop := pathFatesRow.holds Try.pinned (OpenSpec.ofChange pathFatesSpec)

/-- ITS FALSE NEIGHBOUR: 'it returns false'. Refute it at one input. -/
def pathFatesWrong : ChangeSpec := { name := "pathFates", fn := fun _ => fun
  | [d1, d2, d3] => { results := [.lit (.bool false)], args := [d1, d2, d3] }
  | _ => none }
def PathFatesWrongFalsely : Prop := pathFatesRow.holds Try.pinned (OpenSpec.ofChange pathFatesWrong)

/-- 'leatlaw38.PathLoses': WHATEVER THE INPUT: true; the input reads as it did. -/
def pathLosesSpec : ChangeSpec := { name := "pathLoses", fn := fun _ => fun
  | [d1, d2] => { results := [.lit (.bool true)], args := [d1, d2] }
  | _ => none }
def pathLosesRow : OpenClaim := { program := "ytenkonnjokebbaa", sum := "22dd3e53a34e11270a0d66c846944f524f09895cd4a45810bafffa60f0dc1ead", func := "leat/leatlaw38.PathLoses", spec := "pathLoses", unfollowed := true, recurses := true, apart := false }
def PathLosesSaid : Prop := pathLosesRow.holds Try.pinned (OpenSpec.ofChange pathLosesSpec)

/-- ITS FALSE NEIGHBOUR: 'it returns false'. Refute it at one input. -/
def pathLosesWrong : ChangeSpec := { name := "pathLoses", fn := fun _ => fun
  | [d1, d2] => { results := [.lit (.bool false)], args := [d1, d2] }
  | _ => none }
def PathLosesWrongFalsely : Prop := pathLosesRow.holds Try.pinned (OpenSpec.ofChange pathLosesWrong)

/-- 'leatlaw38.PathWrites': WHATEVER THE INPUT: true; the input reads as it did. -/
def pathWritesSpec : ChangeSpec := { name := "pathWrites", fn := fun _ => fun
  | [d1, d2, d3] => { results := [.lit (.bool true)], args := [d1, d2, d3] }
  | _ => none }
def pathWritesRow : OpenClaim := { program := "ytenkonnjokebbaa", sum := "22dd3e53a34e11270a0d66c846944f524f09895cd4a45810bafffa60f0dc1ead", func := "leat/leatlaw38.PathWrites", spec := "pathWrites", unfollowed := true, recurses := true, apart := false }
def PathWritesSaid : Prop := pathWritesRow.holds Try.pinned (OpenSpec.ofChange pathWritesSpec)

/-- ITS FALSE NEIGHBOUR: 'it returns false'. Refute it at one input. -/
def pathWritesWrong : ChangeSpec := { name := "pathWrites", fn := fun _ => fun
  | [d1, d2, d3] => { results := [.lit (.bool false)], args := [d1, d2, d3] }
  | _ => none }
def PathWritesWrongFalsely : Prop := pathWritesRow.holds Try.pinned (OpenSpec.ofChange pathWritesWrong)

/-- 'leatlaw38.PathBack': WHATEVER THE INPUT: true; the input reads as it did. -/
def pathBackSpec : ChangeSpec := { name := "pathBack", fn := fun _ => fun
  | [d1, d2, d3] => { results := [.lit (.bool true)], args := [d1, d2, d3] }
  | _ => none }
def pathBackRow : OpenClaim := { program := "ytenkonnjokebbaa", sum := "22dd3e53a34e11270a0d66c846944f524f09895cd4a45810bafffa60f0dc1ead", func := "leat/leatlaw38.PathBack", spec := "pathBack", unfollowed := true, recurses := true, apart := false }
def PathBackSaid : Prop := pathBackRow.holds Try.pinned (OpenSpec.ofChange pathBackSpec)

/-- ITS FALSE NEIGHBOUR: 'it returns false'. Refute it at one input. -/
def pathBackWrong : ChangeSpec := { name := "pathBack", fn := fun _ => fun
  | [d1, d2, d3] => { results := [.lit (.bool false)], args := [d1, d2, d3] }
  | _ => none }
def PathBackWrongFalsely : Prop := pathBackRow.holds Try.pinned (OpenSpec.ofChange pathBackWrong)

/- THE SECOND FORM. 'bulk': how many values and letters a reading holds, each counted each time it is reached (what is shared counts as often as it is met; a slice's spare places count too). A statement '..UptoSaid' is the law's where the arguments, and the package variables that the reading takes, are together of bulk at most 1048576: NARROWER than '..Said'. Prove '..Said' where nothing that the law and all that it calls make is longer than what came in: it says more and counts as full. Else prove '..UptoSaid'. A law counts once. -/
mutual
def uptoBulk {H : Type} : DataW H → Nat
  | .lit (.string bytes) => bytes.length + 1
  | .lit _ => 1
  | .nil => 1
  | .ptr d => uptoBulk d + 1
  | .slice elems spare => uptoBulkAll elems + uptoBulkAll spare + 1
  | .agg parts => uptoBulkAll parts + 1
  | .iface _ d => uptoBulk d + 1
  | .map entries => uptoBulkEntries entries + 1
  | .held _ => 1
def uptoBulkAll {H : Type} : List (DataW H) → Nat
  | [] => 0
  | d :: r => uptoBulk d + uptoBulkAll r
def uptoBulkEntries {H : Type} : List (Lit × DataW H) → Nat
  | [] => 0
  | x :: r => uptoBulkEntry x + uptoBulkEntries r
def uptoBulkEntry {H : Type} : Lit × DataW H → Nat
  | (.string bytes, d) => bytes.length + uptoBulk d + 1
  | (_, d) => uptoBulk d + 1
 end
def uptoSmall : (H : Type) → List (DataW H) → Bool := fun _ ds => decide (uptoBulkAll ds ≤ 1048576)
def OpenSpec.upto (s : _root_.Go.ChangeSpec) : _root_.Go.OpenSpec := { _root_.Go.OpenSpec.ofChange s with cond := some uptoSmall }

/-- 'leatlaw13.SegmentDecodes', WHERE WHAT IT READS IS OF BULK AT MOST 1048576: true; the input reads as it did. -/
def segmentDecodesUptoRow : OpenClaim := { program := "ytenkonnjokebbaa", sum := "22dd3e53a34e11270a0d66c846944f524f09895cd4a45810bafffa60f0dc1ead", func := "leat/leatlaw13.SegmentDecodes", spec := "segmentDecodes", unfollowed := true, recurses := true, apart := false, narrowed := true }
def SegmentDecodesUptoSaid : Prop := segmentDecodesUptoRow.holds Try.pinned (OpenSpec.upto segmentDecodesSpec)

/-- 'leatlaw13.SegmentBack', WHERE WHAT IT READS IS OF BULK AT MOST 1048576: true; the input reads as it did. -/
def segmentBackUptoRow : OpenClaim := { program := "ytenkonnjokebbaa", sum := "22dd3e53a34e11270a0d66c846944f524f09895cd4a45810bafffa60f0dc1ead", func := "leat/leatlaw13.SegmentBack", spec := "segmentBack", unfollowed := true, recurses := true, apart := false, narrowed := true }
def SegmentBackUptoSaid : Prop := segmentBackUptoRow.holds Try.pinned (OpenSpec.upto segmentBackSpec)

/-- 'leatlaw13.SegmentTurned', WHERE WHAT IT READS IS OF BULK AT MOST 1048576: true; the input reads as it did. -/
def segmentTurnedUptoRow : OpenClaim := { program := "ytenkonnjokebbaa", sum := "22dd3e53a34e11270a0d66c846944f524f09895cd4a45810bafffa60f0dc1ead", func := "leat/leatlaw13.SegmentTurned", spec := "segmentTurned", unfollowed := true, recurses := true, apart := false, narrowed := true }
def SegmentTurnedUptoSaid : Prop := segmentTurnedUptoRow.holds Try.pinned (OpenSpec.upto segmentTurnedSpec)

/-- 'leatlaw13.SegmentEncodes', WHERE WHAT IT READS IS OF BULK AT MOST 1048576: true; the input reads as it did. -/
def segmentEncodesUptoRow : OpenClaim := { program := "ytenkonnjokebbaa", sum := "22dd3e53a34e11270a0d66c846944f524f09895cd4a45810bafffa60f0dc1ead", func := "leat/leatlaw13.SegmentEncodes", spec := "segmentEncodes", unfollowed := true, recurses := true, apart := false, narrowed := true }
def SegmentEncodesUptoSaid : Prop := segmentEncodesUptoRow.holds Try.pinned (OpenSpec.upto segmentEncodesSpec)

/-- 'leatlaw13.SegmentCuts', WHERE WHAT IT READS IS OF BULK AT MOST 1048576: true; the input reads as it did. -/
def segmentCutsUptoRow : OpenClaim := { program := "ytenkonnjokebbaa", sum := "22dd3e53a34e11270a0d66c846944f524f09895cd4a45810bafffa60f0dc1ead", func := "leat/leatlaw13.SegmentCuts", spec := "segmentCuts", unfollowed := true, recurses := true, apart := false, narrowed := true }
def SegmentCutsUptoSaid : Prop := segmentCutsUptoRow.holds Try.pinned (OpenSpec.upto segmentCutsSpec)

/-- 'leatlaw13.SegmentGathers', WHERE WHAT IT READS IS OF BULK AT MOST 1048576: true; the input reads as it did. -/
def segmentGathersUptoRow : OpenClaim := { program := "ytenkonnjokebbaa", sum := "22dd3e53a34e11270a0d66c846944f524f09895cd4a45810bafffa60f0dc1ead", func := "leat/leatlaw13.SegmentGathers", spec := "segmentGathers", unfollowed := true, recurses := true, apart := false, narrowed := true }
def SegmentGathersUptoSaid : Prop := segmentGathersUptoRow.holds Try.pinned (OpenSpec.upto segmentGathersSpec)

/-- 'leatlaw38.PathFates', WHERE WHAT IT READS IS OF BULK AT MOST 1048576: true; the input reads as it did. -/
def pathFatesUptoRow : OpenClaim := { program := "ytenkonnjokebbaa", sum := "22dd3e53a34e11270a0d66c846944f524f09895cd4a45810bafffa60f0dc1ead", func := "leat/leatlaw38.PathFates", spec := "pathFates", unfollowed := true, recurses := true, apart := false, narrowed := true }
def PathFatesUptoSaid : Prop := pathFatesUptoRow.holds Try.pinned (OpenSpec.upto pathFatesSpec)

/-- 'leatlaw38.PathLoses', WHERE WHAT IT READS IS OF BULK AT MOST 1048576: true; the input reads as it did. -/
def pathLosesUptoRow : OpenClaim := { program := "ytenkonnjokebbaa", sum := "22dd3e53a34e11270a0d66c846944f524f09895cd4a45810bafffa60f0dc1ead", func := "leat/leatlaw38.PathLoses", spec := "pathLoses", unfollowed := true, recurses := true, apart := false, narrowed := true }
def PathLosesUptoSaid : Prop := pathLosesUptoRow.holds Try.pinned (OpenSpec.upto pathLosesSpec)

/-- 'leatlaw38.PathWrites', WHERE WHAT IT READS IS OF BULK AT MOST 1048576: true; the input reads as it did. -/
def pathWritesUptoRow : OpenClaim := { program := "ytenkonnjokebbaa", sum := "22dd3e53a34e11270a0d66c846944f524f09895cd4a45810bafffa60f0dc1ead", func := "leat/leatlaw38.PathWrites", spec := "pathWrites", unfollowed := true, recurses := true, apart := false, narrowed := true }
def PathWritesUptoSaid : Prop := pathWritesUptoRow.holds Try.pinned (OpenSpec.upto pathWritesSpec)

/-- 'leatlaw38.PathBack', WHERE WHAT IT READS IS OF BULK AT MOST 1048576: true; the input reads as it did. -/
def pathBackUptoRow : OpenClaim := { program := "ytenkonnjokebbaa", sum := "22dd3e53a34e11270a0d66c846944f524f09895cd4a45810bafffa60f0dc1ead", func := "leat/leatlaw38.PathBack", spec := "pathBack", unfollowed := true, recurses := true, apart := false, narrowed := true }
def PathBackUptoSaid : Prop := pathBackUptoRow.holds Try.pinned (OpenSpec.upto pathBackSpec)

end Rows
end Go.Proofs.Ytenkonnjokebbaa
