/-
  No cell of these rows narrows 'for every input' (looked for: loops, veiled, ifaces, maps, wideKeys, modest, calm, conditions, laid).
  DERIVED. THE GIVEN ROWS OF THIS SEAT. 11 by the template 'for every input the law returns true; each argument reads behind the call as it read before'; 0 by the template 'total and deterministic' (their statements: YthpinlcfcgnilaaTotals.lean).
  GIVEN WITH THE SEED: the statements are not yours to turn. If you find one false, say at which input.
  Laid BY PROGRAM, IN A SANDBOX (cutbox-rows.mjs): the forced cells as the released guide's own fill.sh prints them over the translation c5a65ca34ce65529… (all of the seat's roots in one cut). By AI agents, Wed Nov 11 2026. No macro, syntax, notation, axiom, sorry.
-/
import Derived.Test.YthpinlcfcgnilaaChecked
import GoSem.Claim
import GoSem.ClaimJoined
import GoSem.ClaimMapViews
import Derived.JoinedTies
import Derived.KernelRfl
namespace Go.Proofs.Ythpinlcfcgnilaa
/- THE CELL 'sum', in the pinned program and in every row, IS THE sha256 OF THE DUMP (.gsa) THAT YthpinlcfcgnilaaProg.lean LOADS. Nothing in Lean hashes anything: it is a label: what it is worth is what the hold of that sum in a sandbox is worth. -/
noncomputable def Try.pinned : Pinned := { name := "ythpinlcfcgnilaa", sum := "c5a65ca34ce65529aed457aeeaf76455f72b90a64b332a3ebf16e94ed5a15e86", checked := Try.checked }
namespace Rows
def none {H : Type} : Left H := { results := [], args := [] }

/-- 'leatlaw06.HeapRises': WHATEVER THE INPUT: true; the input reads as it did. -/
def heapRisesSpec : ChangeSpec := { name := "heapRises", fn := fun _ => fun
  | [d] => { results := [.lit (.bool true)], args := [d] }
  | _ => none }
def heapRisesRow : OpenClaim := { program := "ythpinlcfcgnilaa", sum := "c5a65ca34ce65529aed457aeeaf76455f72b90a64b332a3ebf16e94ed5a15e86", func := "leat/leatlaw06.HeapRises", spec := "heapRises", unfollowed := true, recurses := true, apart := false }
def HeapRisesSaid : Prop := heapRisesRow.holds Try.pinned (OpenSpec.ofChange heapRisesSpec)

/-- ITS FALSE NEIGHBOUR: 'it returns false'. Refute it at one input. -/
def heapRisesWrong : ChangeSpec := { name := "heapRises", fn := fun _ => fun
  | [d] => { results := [.lit (.bool false)], args := [d] }
  | _ => none }
def HeapRisesWrongFalsely : Prop := heapRisesRow.holds Try.pinned (OpenSpec.ofChange heapRisesWrong)

/-- 'leatlaw30.ReceiverFills': WHATEVER THE INPUT: true; the input reads as it did. -/
def receiverFillsSpec : ChangeSpec := { name := "receiverFills", fn := fun _ => fun
  | [d1, d2] => { results := [.lit (.bool true)], args := [d1, d2] }
  | _ => none }
def receiverFillsRow : OpenClaim := { program := "ythpinlcfcgnilaa", sum := "c5a65ca34ce65529aed457aeeaf76455f72b90a64b332a3ebf16e94ed5a15e86", func := "leat/leatlaw30.ReceiverFills", spec := "receiverFills", unfollowed := true, recurses := true, apart := false }
def ReceiverFillsSaid : Prop := receiverFillsRow.holds Try.pinned (OpenSpec.ofChange receiverFillsSpec)

/-- ITS FALSE NEIGHBOUR: 'it returns false'. Refute it at one input. -/
def receiverFillsWrong : ChangeSpec := { name := "receiverFills", fn := fun _ => fun
  | [d1, d2] => { results := [.lit (.bool false)], args := [d1, d2] }
  | _ => none }
def ReceiverFillsWrongFalsely : Prop := receiverFillsRow.holds Try.pinned (OpenSpec.ofChange receiverFillsWrong)

/-- 'leatlaw30.ReceiverTells': WHATEVER THE INPUT: true; the input reads as it did. -/
def receiverTellsSpec : ChangeSpec := { name := "receiverTells", fn := fun _ => fun
  | [d1, d2] => { results := [.lit (.bool true)], args := [d1, d2] }
  | _ => none }
def receiverTellsRow : OpenClaim := { program := "ythpinlcfcgnilaa", sum := "c5a65ca34ce65529aed457aeeaf76455f72b90a64b332a3ebf16e94ed5a15e86", func := "leat/leatlaw30.ReceiverTells", spec := "receiverTells", unfollowed := true, recurses := true, apart := false }
def ReceiverTellsSaid : Prop := receiverTellsRow.holds Try.pinned (OpenSpec.ofChange receiverTellsSpec)

/-- ITS FALSE NEIGHBOUR: 'it returns false'. Refute it at one input. -/
def receiverTellsWrong : ChangeSpec := { name := "receiverTells", fn := fun _ => fun
  | [d1, d2] => { results := [.lit (.bool false)], args := [d1, d2] }
  | _ => none }
def ReceiverTellsWrongFalsely : Prop := receiverTellsRow.holds Try.pinned (OpenSpec.ofChange receiverTellsWrong)

/-- 'leatlaw30.ReceiverTakes': WHATEVER THE INPUT: true; the input reads as it did. -/
def receiverTakesSpec : ChangeSpec := { name := "receiverTakes", fn := fun _ => fun
  | [d1, d2, d3] => { results := [.lit (.bool true)], args := [d1, d2, d3] }
  | _ => none }
def receiverTakesRow : OpenClaim := { program := "ythpinlcfcgnilaa", sum := "c5a65ca34ce65529aed457aeeaf76455f72b90a64b332a3ebf16e94ed5a15e86", func := "leat/leatlaw30.ReceiverTakes", spec := "receiverTakes", unfollowed := true, recurses := true, apart := false }
def ReceiverTakesSaid : Prop := receiverTakesRow.holds Try.pinned (OpenSpec.ofChange receiverTakesSpec)

/-- ITS FALSE NEIGHBOUR: 'it returns false'. Refute it at one input. -/
def receiverTakesWrong : ChangeSpec := { name := "receiverTakes", fn := fun _ => fun
  | [d1, d2, d3] => { results := [.lit (.bool false)], args := [d1, d2, d3] }
  | _ => none }
def ReceiverTakesWrongFalsely : Prop := receiverTakesRow.holds Try.pinned (OpenSpec.ofChange receiverTakesWrong)

/-- 'leatlaw06.HeapPlays': WHATEVER THE INPUT: true; the input reads as it did. -/
def heapPlaysSpec : ChangeSpec := { name := "heapPlays", fn := fun _ => fun
  | [d] => { results := [.lit (.bool true)], args := [d] }
  | _ => none }
def heapPlaysRow : OpenClaim := { program := "ythpinlcfcgnilaa", sum := "c5a65ca34ce65529aed457aeeaf76455f72b90a64b332a3ebf16e94ed5a15e86", func := "leat/leatlaw06.HeapPlays", spec := "heapPlays", unfollowed := true, recurses := true, apart := false }
def HeapPlaysSaid : Prop := heapPlaysRow.holds Try.pinned (OpenSpec.ofChange heapPlaysSpec)

/-- ITS FALSE NEIGHBOUR: 'it returns false'. Refute it at one input. -/
def heapPlaysWrong : ChangeSpec := { name := "heapPlays", fn := fun _ => fun
  | [d] => { results := [.lit (.bool false)], args := [d] }
  | _ => none }
def HeapPlaysWrongFalsely : Prop := heapPlaysRow.holds Try.pinned (OpenSpec.ofChange heapPlaysWrong)

/-- 'leatlaw06.HeapNil': WHATEVER THE INPUT: true; the input reads as it did. -/
def heapNilSpec : ChangeSpec := { name := "heapNil", fn := fun _ => fun
  | [d] => { results := [.lit (.bool true)], args := [d] }
  | _ => none }
def heapNilRow : OpenClaim := { program := "ythpinlcfcgnilaa", sum := "c5a65ca34ce65529aed457aeeaf76455f72b90a64b332a3ebf16e94ed5a15e86", func := "leat/leatlaw06.HeapNil", spec := "heapNil", unfollowed := true, recurses := true, apart := false }
def HeapNilSaid : Prop := heapNilRow.holds Try.pinned (OpenSpec.ofChange heapNilSpec)

/-- ITS FALSE NEIGHBOUR: 'it returns false'. Refute it at one input. -/
def heapNilWrong : ChangeSpec := { name := "heapNil", fn := fun _ => fun
  | [d] => { results := [.lit (.bool false)], args := [d] }
  | _ => none }
def HeapNilWrongFalsely : Prop := heapNilRow.holds Try.pinned (OpenSpec.ofChange heapNilWrong)

/-- 'leatlaw45.RoundsRun': WHATEVER THE INPUT: true; the input reads as it did. -/
def roundsRunSpec : ChangeSpec := { name := "roundsRun", fn := fun _ => fun
  | [d1, d2] => { results := [.lit (.bool true)], args := [d1, d2] }
  | _ => none }
def roundsRunRow : OpenClaim := { program := "ythpinlcfcgnilaa", sum := "c5a65ca34ce65529aed457aeeaf76455f72b90a64b332a3ebf16e94ed5a15e86", func := "leat/leatlaw45.RoundsRun", spec := "roundsRun", unfollowed := true, recurses := true, apart := false }
def RoundsRunSaid : Prop := roundsRunRow.holds Try.pinned (OpenSpec.ofChange roundsRunSpec)

/-- ITS FALSE NEIGHBOUR: 'it returns false'. Refute it at one input. -/
def roundsRunWrong : ChangeSpec := { name := "roundsRun", fn := fun _ => fun
  | [d1, d2] => { results := [.lit (.bool false)], args := [d1, d2] }
  | _ => none }
def RoundsRunWrongFalsely : Prop := roundsRunRow.holds Try.pinned (OpenSpec.ofChange roundsRunWrong)

/-- 'leatlaw45.RoundsGo': WHATEVER THE INPUT: true; the input reads as it did. -/
def roundsGoSpec : ChangeSpec := { name := "roundsGo", fn := fun _ => fun
  | [d] => { results := [.lit (.bool true)], args := [d] }
  | _ => none }
def roundsGoRow : OpenClaim := { program := "ythpinlcfcgnilaa", sum := "c5a65ca34ce65529aed457aeeaf76455f72b90a64b332a3ebf16e94ed5a15e86", func := "leat/leatlaw45.RoundsGo", spec := "roundsGo", unfollowed := true, recurses := true, apart := false }
def RoundsGoSaid : Prop := roundsGoRow.holds Try.pinned (OpenSpec.ofChange roundsGoSpec)

/-- ITS FALSE NEIGHBOUR: 'it returns false'. Refute it at one input. -/
def roundsGoWrong : ChangeSpec := { name := "roundsGo", fn := fun _ => fun
  | [d] => { results := [.lit (.bool false)], args := [d] }
  | _ => none }
def RoundsGoWrongFalsely : Prop := roundsGoRow.holds Try.pinned (OpenSpec.ofChange roundsGoWrong)

/-- 'leatlaw45.RoundsWait': WHATEVER THE INPUT: true; the input reads as it did. -/
def roundsWaitSpec : ChangeSpec := { name := "roundsWait", fn := fun _ => fun
  | [d1, d2] => { results := [.lit (.bool true)], args := [d1, d2] }
  | _ => none }
def roundsWaitRow : OpenClaim := { program := "ythpinlcfcgnilaa", sum := "c5a65ca34ce65529aed457aeeaf76455f72b90a64b332a3ebf16e94ed5a15e86", func := "leat/leatlaw45.RoundsWait", spec := "roundsWait", unfollowed := true, recurses := true, apart := false }
def RoundsWaitSaid : Prop := roundsWaitRow.holds Try.pinned (OpenSpec.ofChange roundsWaitSpec)

/-- ITS FALSE NEIGHBOUR: 'it returns false'. Refute it at one input. -/
def roundsWaitWrong : ChangeSpec := { name := "roundsWait", fn := fun _ => fun
  | [d1, d2] => { results := [.lit (.bool false)], args := [d1, d2] }
  | _ => none }
def RoundsWaitWrongFalsely : Prop := roundsWaitRow.holds Try.pinned (OpenSpec.ofChange roundsWaitWrong)

/-- 'leatlaw45.RoundsSend': WHATEVER THE INPUT: true; the input reads as it did. -/
def roundsSendSpec : ChangeSpec := { name := "roundsSend", fn := fun _ => fun
  | [d1, d2] => { results := [.lit (.bool true)], args := [d1, d2] }
  | _ => none }
def roundsSendRow : OpenClaim := { program := "ythpinlcfcgnilaa", sum := "c5a65ca34ce65529aed457aeeaf76455f72b90a64b332a3ebf16e94ed5a15e86", func := "leat/leatlaw45.RoundsSend", spec := "roundsSend", unfollowed := true, recurses := true, apart := false }
def RoundsSendSaid : Prop := roundsSendRow.holds Try.pinned (OpenSpec.ofChange roundsSendSpec)

/-- ITS FALSE NEIGHBOUR: 'it returns false'. Refute it at one input. -/
def roundsSendWrong : ChangeSpec := { name := "roundsSend", fn := fun _ => fun
  | [d1, d2] => { results := [.lit (.bool false)], args := [d1, d2] }
  | _ => none }
def RoundsSendWrongFalsely : Prop := roundsSendRow.holds Try.pinned (OpenSpec.ofChange roundsSendWrong)

/-- 'leatlaw06.HeapMerges': WHATEVER THE INPUT: true; the input reads as it did. -/
def heapMergesSpec : ChangeSpec := { name := "heapMerges", fn := fun _ => fun
  | [d1, d2] => { results := [.lit (.bool true)], args := [d1, d2] }
  | _ => none }
def heapMergesRow : OpenClaim := { program := "ythpinlcfcgnilaa", sum := "c5a65ca34ce65529aed457aeeaf76455f72b90a64b332a3ebf16e94ed5a15e86", func := "leat/leatlaw06.HeapMerges", spec := "heapMerges", unfollowed := true, recurses := true, apart := false }
def HeapMergesSaid : Prop := heapMergesRow.holds Try.pinned (OpenSpec.ofChange heapMergesSpec)

/-- ITS FALSE NEIGHBOUR: 'it returns false'. Refute it at one input. -/
def heapMergesWrong : ChangeSpec := { name := "heapMerges", fn := fun _ => fun
  | [d1, d2] => { results := [.lit (.bool false)], args := [d1, d2] }
  | _ => none }
def HeapMergesWrongFalsely : Prop := heapMergesRow.holds Try.pinned (OpenSpec.ofChange heapMergesWrong)

/- THE SECOND FORM. 'bulk': how many values and letters a reading holds, each counted each time it is reached (what is shared counts as often as it is met; a slice's spare places count too). A statement '..UptoSaid' is the law's where the arguments, and the package variables that the reading takes, are together of bulk at most 1048576: NARROWER than '..Said'. Prove '..Said' where nothing that the law and all that it calls make is longer than what came in: it says more and counts as full. Else prove '..UptoSaid'. A law counts once. -/
mutual
def uptoBulk {H : Type} : DataW H → Nat
  | .lit (.string bytes) => bytes.length + 1
  | .lit _ => 1
  | .nil => 1
  | .ptr d => uptoBulk d + 1
  | .slice elems spare => uptoBulkAll elems + uptoBulkAll spare + 1
  | .agg parts => uptoBulkAll parts + 1
  | .iface _ d => uptoBulk d + 1
  | .map entries => uptoBulkEntries entries + 1
  | .held _ => 1
def uptoBulkAll {H : Type} : List (DataW H) → Nat
  | [] => 0
  | d :: r => uptoBulk d + uptoBulkAll r
def uptoBulkEntries {H : Type} : List (Lit × DataW H) → Nat
  | [] => 0
  | x :: r => uptoBulkEntry x + uptoBulkEntries r
def uptoBulkEntry {H : Type} : Lit × DataW H → Nat
  | (.string bytes, d) => bytes.length + uptoBulk d + 1
  | (_, d) => uptoBulk d + 1
 end
def uptoSmall : (H : Type) → List (DataW H) → Bool := fun _ ds => decide (uptoBulkAll ds ≤ 1048576)
def OpenSpec.upto (s : _root_.Go.ChangeSpec) : _root_.Go.OpenSpec := { _root_.Go.OpenSpec.ofChange s with cond := some uptoSmall }

/-- 'leatlaw06.HeapRises', WHERE WHAT IT READS IS OF BULK AT MOST 1048576: true; the input reads as it did. -/
def heapRisesUptoRow : OpenClaim := { program := "ythpinlcfcgnilaa", sum := "c5a65ca34ce65529aed457aeeaf76455f72b90a64b332a3ebf16e94ed5a15e86", func := "leat/leatlaw06.HeapRises", spec := "heapRises", unfollowed := true, recurses := true, apart := false, narrowed := true }
def HeapRisesUptoSaid : Prop := heapRisesUptoRow.holds Try.pinned (OpenSpec.upto heapRisesSpec)

/-- 'leatlaw30.ReceiverFills', WHERE WHAT IT READS IS OF BULK AT MOST 1048576: true; the input reads as it did. -/
def receiverFillsUptoRow : OpenClaim := { program := "ythpinlcfcgnilaa", sum := "c5a65ca34ce65529aed457aeeaf76455f72b90a64b332a3ebf16e94ed5a15e86", func := "leat/leatlaw30.ReceiverFills", spec := "receiverFills", unfollowed := true, recurses := true, apart := false, narrowed := true }
def ReceiverFillsUptoSaid : Prop := receiverFillsUptoRow.holds Try.pinned (OpenSpec.upto receiverFillsSpec)

/-- 'leatlaw30.ReceiverTells', WHERE WHAT IT READS IS OF BULK AT MOST 1048576: true; the input reads as it did. -/
def receiverTellsUptoRow : OpenClaim := { program := "ythpinlcfcgnilaa", sum := "c5a65ca34ce65529aed457aeeaf76455f72b90a64b332a3ebf16e94ed5a15e86", func := "leat/leatlaw30.ReceiverTells", spec := "receiverTells", unfollowed := true, recurses := true, apart := false, narrowed := true }
def ReceiverTellsUptoSaid : Prop := receiverTellsUptoRow.holds Try.pinned (OpenSpec.upto receiverTellsSpec)

/-- 'leatlaw30.ReceiverTakes', WHERE WHAT IT READS IS OF BULK AT MOST 1048576: true; the input reads as it did. -/
def receiverTakesUptoRow : OpenClaim := { program := "ythpinlcfcgnilaa", sum := "c5a65ca34ce65529aed457aeeaf76455f72b90a64b332a3ebf16e94ed5a15e86", func := "leat/leatlaw30.ReceiverTakes", spec := "receiverTakes", unfollowed := true, recurses := true, apart := false, narrowed := true }
def ReceiverTakesUptoSaid : Prop := receiverTakesUptoRow.holds Try.pinned (OpenSpec.upto receiverTakesSpec)

/-- 'leatlaw06.HeapPlays', WHERE WHAT IT READS IS OF BULK AT MOST 1048576: true; the input reads as it did. -/
def heapPlaysUptoRow : OpenClaim := { program := "ythpinlcfcgnilaa", sum := "c5a65ca34ce65529aed457aeeaf76455f72b90a64b332a3ebf16e94ed5a15e86", func := "leat/leatlaw06.HeapPlays", spec := "heapPlays", unfollowed := true, recurses := true, apart := false, narrowed := true }
def HeapPlaysUptoSaid : Prop := heapPlaysUptoRow.holds Try.pinned (OpenSpec.upto heapPlaysSpec)

/-- 'leatlaw06.HeapNil', WHERE WHAT IT READS IS OF BULK AT MOST 1048576: true; the input reads as it did. -/
def heapNilUptoRow : OpenClaim := { program := "ythpinlcfcgnilaa", sum := "c5a65ca34ce65529aed457aeeaf76455f72b90a64b332a3ebf16e94ed5a15e86", func := "leat/leatlaw06.HeapNil", spec := "heapNil", unfollowed := true, recurses := true, apart := false, narrowed := true }
def HeapNilUptoSaid : Prop := heapNilUptoRow.holds Try.pinned (OpenSpec.upto heapNilSpec)

/-- 'leatlaw45.RoundsRun', WHERE WHAT IT READS IS OF BULK AT MOST 1048576: true; the input reads as it did. -/
def roundsRunUptoRow : OpenClaim := { program := "ythpinlcfcgnilaa", sum := "c5a65ca34ce65529aed457aeeaf76455f72b90a64b332a3ebf16e94ed5a15e86", func := "leat/leatlaw45.RoundsRun", spec := "roundsRun", unfollowed := true, recurses := true, apart := false, narrowed := true }
def RoundsRunUptoSaid : Prop := roundsRunUptoRow.holds Try.pinned (OpenSpec.upto roundsRunSpec)

/-- 'leatlaw45.RoundsGo', WHERE WHAT IT READS IS OF BULK AT MOST 1048576: true; the input reads as it did. -/
def roundsGoUptoRow : OpenClaim := { program := "ythpinlcfcgnilaa", sum := "c5a65ca34ce65529aed457aeeaf76455f72b90a64b332a3ebf16e94ed5a15e86", func := "leat/leatlaw45.RoundsGo", spec := "roundsGo", unfollowed := true, recurses := true, apart := false, narrowed := true }
def RoundsGoUptoSaid : Prop := roundsGoUptoRow.holds Try.pinned (OpenSpec.upto roundsGoSpec)

/-- 'leatlaw45.RoundsWait', WHERE WHAT IT READS IS OF BULK AT MOST 1048576: true; the input reads as it did. -/
def roundsWaitUptoRow : OpenClaim := { program := "ythpinlcfcgnilaa", sum := "c5a65ca34ce65529aed457aeeaf76455f72b90a64b332a3ebf16e94ed5a15e86", func := "leat/leatlaw45.RoundsWait", spec := "roundsWait", unfollowed := true, recurses := true, apart := false, narrowed := true }
def RoundsWaitUptoSaid : Prop := roundsWaitUptoRow.holds Try.pinned (OpenSpec.upto roundsWaitSpec)

/-- 'leatlaw45.RoundsSend', WHERE WHAT IT READS IS OF BULK AT MOST 1048576: true; the input reads as it did. -/
def roundsSendUptoRow : OpenClaim := { program := "ythpinlcfcgnilaa", sum := "c5a65ca34ce65529aed457aeeaf76455f72b90a64b332a3ebf16e94ed5a15e86", func := "leat/leatlaw45.RoundsSend", spec := "roundsSend", unfollowed := true, recurses := true, apart := false, narrowed := true }
def RoundsSendUptoSaid : Prop := roundsSendUptoRow.holds Try.pinned (OpenSpec.upto roundsSendSpec)

/-- 'leatlaw06.HeapMerges', WHERE WHAT IT READS IS OF BULK AT MOST 1048576: true; the input reads as it did. -/
def heapMergesUptoRow : OpenClaim := { program := "ythpinlcfcgnilaa", sum := "c5a65ca34ce65529aed457aeeaf76455f72b90a64b332a3ebf16e94ed5a15e86", func := "leat/leatlaw06.HeapMerges", spec := "heapMerges", unfollowed := true, recurses := true, apart := false, narrowed := true }
def HeapMergesUptoSaid : Prop := heapMergesUptoRow.holds Try.pinned (OpenSpec.upto heapMergesSpec)

end Rows
end Go.Proofs.Ythpinlcfcgnilaa
