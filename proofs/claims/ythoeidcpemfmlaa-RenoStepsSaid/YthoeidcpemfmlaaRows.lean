/-
  No cell of these rows narrows 'for every input' (looked for: loops, veiled, ifaces, maps, wideKeys, modest, calm, conditions, laid).
  DERIVED. THE GIVEN ROWS OF THIS SEAT. 12 by the template 'for every input the law returns true; each argument reads behind the call as it read before'; 0 by the template 'total and deterministic' (their statements: YthoeidcpemfmlaaTotals.lean).
  GIVEN WITH THE SEED: the statements are not yours to turn. If you find one false, say at which input.
  Laid BY PROGRAM, IN A SANDBOX (cutbox-rows.mjs): the forced cells as the released guide's own fill.sh prints them over the translation 1835b8d65cdd9078… (all of the seat's roots in one cut). By AI agents, Wed Nov 11 2026. No macro, syntax, notation, axiom, sorry.
-/
import Derived.Test.YthoeidcpemfmlaaChecked
import GoSem.Claim
import GoSem.ClaimJoined
import GoSem.ClaimMapViews
import Derived.JoinedTies
import Derived.KernelRfl
namespace Go.Proofs.Ythoeidcpemfmlaa
/- THE CELL 'sum', in the pinned program and in every row, IS THE sha256 OF THE DUMP (.gsa) THAT YthoeidcpemfmlaaProg.lean LOADS. Nothing in Lean hashes anything: it is a label: what it is worth is what the hold of that sum in a sandbox is worth. -/
noncomputable def Try.pinned : Pinned := { name := "ythoeidcpemfmlaa", sum := "1835b8d65cdd90782fc5d9b2a3f447b635048a105939d25a32fb8424f25910ce", checked := Try.checked }
namespace Rows
def none {H : Type} : Left H := { results := [], args := [] }

/-- 'leatlaw24.RenoGrows': WHATEVER THE INPUT: true; the input reads as it did. -/
def renoGrowsSpec : ChangeSpec := { name := "renoGrows", fn := fun _ => fun
  | [d1, d2, d3] => { results := [.lit (.bool true)], args := [d1, d2, d3] }
  | _ => none }
def renoGrowsRow : OpenClaim := { program := "ythoeidcpemfmlaa", sum := "1835b8d65cdd90782fc5d9b2a3f447b635048a105939d25a32fb8424f25910ce", func := "leat/leatlaw24.RenoGrows", spec := "renoGrows", unfollowed := true, recurses := true, apart := false }
def RenoGrowsSaid : Prop := renoGrowsRow.holds Try.pinned (OpenSpec.ofChange renoGrowsSpec)

/-- ITS FALSE NEIGHBOUR: 'it returns false'. Refute it at one input. -/
def renoGrowsWrong : ChangeSpec := { name := "renoGrows", fn := fun _ => fun
  | [d1, d2, d3] => { results := [.lit (.bool false)], args := [d1, d2, d3] }
  | _ => none }
def RenoGrowsWrongFalsely : Prop := renoGrowsRow.holds Try.pinned (OpenSpec.ofChange renoGrowsWrong)

/-- 'leatlaw24.RenoRound': WHATEVER THE INPUT: true; the input reads as it did. -/
def renoRoundSpec : ChangeSpec := { name := "renoRound", fn := fun _ => fun
  | [d1, d2, d3] => { results := [.lit (.bool true)], args := [d1, d2, d3] }
  | _ => none }
def renoRoundRow : OpenClaim := { program := "ythoeidcpemfmlaa", sum := "1835b8d65cdd90782fc5d9b2a3f447b635048a105939d25a32fb8424f25910ce", func := "leat/leatlaw24.RenoRound", spec := "renoRound", unfollowed := true, recurses := true, apart := false }
def RenoRoundSaid : Prop := renoRoundRow.holds Try.pinned (OpenSpec.ofChange renoRoundSpec)

/-- ITS FALSE NEIGHBOUR: 'it returns false'. Refute it at one input. -/
def renoRoundWrong : ChangeSpec := { name := "renoRound", fn := fun _ => fun
  | [d1, d2, d3] => { results := [.lit (.bool false)], args := [d1, d2, d3] }
  | _ => none }
def RenoRoundWrongFalsely : Prop := renoRoundRow.holds Try.pinned (OpenSpec.ofChange renoRoundWrong)

/-- 'leatlaw24.RenoSteps': WHATEVER THE INPUT: true; the input reads as it did. -/
def renoStepsSpec : ChangeSpec := { name := "renoSteps", fn := fun _ => fun
  | [d1, d2, d3] => { results := [.lit (.bool true)], args := [d1, d2, d3] }
  | _ => none }
def renoStepsRow : OpenClaim := { program := "ythoeidcpemfmlaa", sum := "1835b8d65cdd90782fc5d9b2a3f447b635048a105939d25a32fb8424f25910ce", func := "leat/leatlaw24.RenoSteps", spec := "renoSteps", unfollowed := true, recurses := true, apart := false }
def RenoStepsSaid : Prop := renoStepsRow.holds Try.pinned (OpenSpec.ofChange renoStepsSpec)

/-- ITS FALSE NEIGHBOUR: 'it returns false'. Refute it at one input. -/
def renoStepsWrong : ChangeSpec := { name := "renoSteps", fn := fun _ => fun
  | [d1, d2, d3] => { results := [.lit (.bool false)], args := [d1, d2, d3] }
  | _ => none }
def RenoStepsWrongFalsely : Prop := renoStepsRow.holds Try.pinned (OpenSpec.ofChange renoStepsWrong)

/-- 'leatlaw24.RenoFalls': WHATEVER THE INPUT: true; the input reads as it did. -/
def renoFallsSpec : ChangeSpec := { name := "renoFalls", fn := fun _ => fun
  | [d1, d2, d3] => { results := [.lit (.bool true)], args := [d1, d2, d3] }
  | _ => none }
def renoFallsRow : OpenClaim := { program := "ythoeidcpemfmlaa", sum := "1835b8d65cdd90782fc5d9b2a3f447b635048a105939d25a32fb8424f25910ce", func := "leat/leatlaw24.RenoFalls", spec := "renoFalls", unfollowed := true, recurses := true, apart := false }
def RenoFallsSaid : Prop := renoFallsRow.holds Try.pinned (OpenSpec.ofChange renoFallsSpec)

/-- ITS FALSE NEIGHBOUR: 'it returns false'. Refute it at one input. -/
def renoFallsWrong : ChangeSpec := { name := "renoFalls", fn := fun _ => fun
  | [d1, d2, d3] => { results := [.lit (.bool false)], args := [d1, d2, d3] }
  | _ => none }
def RenoFallsWrongFalsely : Prop := renoFallsRow.holds Try.pinned (OpenSpec.ofChange renoFallsWrong)

/-- 'leatlaw23.PacerFirst': WHATEVER THE INPUT: true; the input reads as it did. -/
def pacerFirstSpec : ChangeSpec := { name := "pacerFirst", fn := fun _ => fun
  | [d1, d2, d3] => { results := [.lit (.bool true)], args := [d1, d2, d3] }
  | _ => none }
def pacerFirstRow : OpenClaim := { program := "ythoeidcpemfmlaa", sum := "1835b8d65cdd90782fc5d9b2a3f447b635048a105939d25a32fb8424f25910ce", func := "leat/leatlaw23.PacerFirst", spec := "pacerFirst", unfollowed := true, recurses := true, apart := false }
def PacerFirstSaid : Prop := pacerFirstRow.holds Try.pinned (OpenSpec.ofChange pacerFirstSpec)

/-- ITS FALSE NEIGHBOUR: 'it returns false'. Refute it at one input. -/
def pacerFirstWrong : ChangeSpec := { name := "pacerFirst", fn := fun _ => fun
  | [d1, d2, d3] => { results := [.lit (.bool false)], args := [d1, d2, d3] }
  | _ => none }
def PacerFirstWrongFalsely : Prop := pacerFirstRow.holds Try.pinned (OpenSpec.ofChange pacerFirstWrong)

/-- 'leatlaw23.PacerFills': WHATEVER THE INPUT: true; the input reads as it did. -/
def pacerFillsSpec : ChangeSpec := { name := "pacerFills", fn := fun _ => fun
  | [d1, d2, d3] => { results := [.lit (.bool true)], args := [d1, d2, d3] }
  | _ => none }
def pacerFillsRow : OpenClaim := { program := "ythoeidcpemfmlaa", sum := "1835b8d65cdd90782fc5d9b2a3f447b635048a105939d25a32fb8424f25910ce", func := "leat/leatlaw23.PacerFills", spec := "pacerFills", unfollowed := true, recurses := true, apart := false }
def PacerFillsSaid : Prop := pacerFillsRow.holds Try.pinned (OpenSpec.ofChange pacerFillsSpec)

/-- ITS FALSE NEIGHBOUR: 'it returns false'. Refute it at one input. -/
def pacerFillsWrong : ChangeSpec := { name := "pacerFills", fn := fun _ => fun
  | [d1, d2, d3] => { results := [.lit (.bool false)], args := [d1, d2, d3] }
  | _ => none }
def PacerFillsWrongFalsely : Prop := pacerFillsRow.holds Try.pinned (OpenSpec.ofChange pacerFillsWrong)

/-- 'leatlaw23.PacerBounds': WHATEVER THE INPUT: true; the input reads as it did. -/
def pacerBoundsSpec : ChangeSpec := { name := "pacerBounds", fn := fun _ => fun
  | [d1, d2, d3] => { results := [.lit (.bool true)], args := [d1, d2, d3] }
  | _ => none }
def pacerBoundsRow : OpenClaim := { program := "ythoeidcpemfmlaa", sum := "1835b8d65cdd90782fc5d9b2a3f447b635048a105939d25a32fb8424f25910ce", func := "leat/leatlaw23.PacerBounds", spec := "pacerBounds", unfollowed := true, recurses := true, apart := false }
def PacerBoundsSaid : Prop := pacerBoundsRow.holds Try.pinned (OpenSpec.ofChange pacerBoundsSpec)

/-- ITS FALSE NEIGHBOUR: 'it returns false'. Refute it at one input. -/
def pacerBoundsWrong : ChangeSpec := { name := "pacerBounds", fn := fun _ => fun
  | [d1, d2, d3] => { results := [.lit (.bool false)], args := [d1, d2, d3] }
  | _ => none }
def PacerBoundsWrongFalsely : Prop := pacerBoundsRow.holds Try.pinned (OpenSpec.ofChange pacerBoundsWrong)

/-- 'leatlaw23.PacerTells': WHATEVER THE INPUT: true; the input reads as it did. -/
def pacerTellsSpec : ChangeSpec := { name := "pacerTells", fn := fun _ => fun
  | [d1, d2, d3] => { results := [.lit (.bool true)], args := [d1, d2, d3] }
  | _ => none }
def pacerTellsRow : OpenClaim := { program := "ythoeidcpemfmlaa", sum := "1835b8d65cdd90782fc5d9b2a3f447b635048a105939d25a32fb8424f25910ce", func := "leat/leatlaw23.PacerTells", spec := "pacerTells", unfollowed := true, recurses := true, apart := false }
def PacerTellsSaid : Prop := pacerTellsRow.holds Try.pinned (OpenSpec.ofChange pacerTellsSpec)

/-- ITS FALSE NEIGHBOUR: 'it returns false'. Refute it at one input. -/
def pacerTellsWrong : ChangeSpec := { name := "pacerTells", fn := fun _ => fun
  | [d1, d2, d3] => { results := [.lit (.bool false)], args := [d1, d2, d3] }
  | _ => none }
def PacerTellsWrongFalsely : Prop := pacerTellsRow.holds Try.pinned (OpenSpec.ofChange pacerTellsWrong)

/-- 'leatlaw45.RoundsRun': WHATEVER THE INPUT: true; the input reads as it did. -/
def roundsRunSpec : ChangeSpec := { name := "roundsRun", fn := fun _ => fun
  | [d1, d2] => { results := [.lit (.bool true)], args := [d1, d2] }
  | _ => none }
def roundsRunRow : OpenClaim := { program := "ythoeidcpemfmlaa", sum := "1835b8d65cdd90782fc5d9b2a3f447b635048a105939d25a32fb8424f25910ce", func := "leat/leatlaw45.RoundsRun", spec := "roundsRun", unfollowed := true, recurses := true, apart := false }
def RoundsRunSaid : Prop := roundsRunRow.holds Try.pinned (OpenSpec.ofChange roundsRunSpec)

/-- ITS FALSE NEIGHBOUR: 'it returns false'. Refute it at one input. -/
def roundsRunWrong : ChangeSpec := { name := "roundsRun", fn := fun _ => fun
  | [d1, d2] => { results := [.lit (.bool false)], args := [d1, d2] }
  | _ => none }
def RoundsRunWrongFalsely : Prop := roundsRunRow.holds Try.pinned (OpenSpec.ofChange roundsRunWrong)

/-- 'leatlaw45.RoundsGo': WHATEVER THE INPUT: true; the input reads as it did. -/
def roundsGoSpec : ChangeSpec := { name := "roundsGo", fn := fun _ => fun
  | [d] => { results := [.lit (.bool true)], args := [d] }
  | _ => none }
def roundsGoRow : OpenClaim := { program := "ythoeidcpemfmlaa", sum := "1835b8d65cdd90782fc5d9b2a3f447b635048a105939d25a32fb8424f25910ce", func := "leat/leatlaw45.RoundsGo", spec := "roundsGo", unfollowed := true, recurses := true, apart := false }
def RoundsGoSaid : Prop := roundsGoRow.holds Try.pinned (OpenSpec.ofChange roundsGoSpec)

/-- ITS FALSE NEIGHBOUR: 'it returns false'. Refute it at one input. -/
def roundsGoWrong : ChangeSpec := { name := "roundsGo", fn := fun _ => fun
  | [d] => { results := [.lit (.bool false)], args := [d] }
  | _ => none }
def RoundsGoWrongFalsely : Prop := roundsGoRow.holds Try.pinned (OpenSpec.ofChange roundsGoWrong)

/-- 'leatlaw45.RoundsWait': WHATEVER THE INPUT: true; the input reads as it did. -/
def roundsWaitSpec : ChangeSpec := { name := "roundsWait", fn := fun _ => fun
  | [d1, d2] => { results := [.lit (.bool true)], args := [d1, d2] }
  | _ => none }
def roundsWaitRow : OpenClaim := { program := "ythoeidcpemfmlaa", sum := "1835b8d65cdd90782fc5d9b2a3f447b635048a105939d25a32fb8424f25910ce", func := "leat/leatlaw45.RoundsWait", spec := "roundsWait", unfollowed := true, recurses := true, apart := false }
def RoundsWaitSaid : Prop := roundsWaitRow.holds Try.pinned (OpenSpec.ofChange roundsWaitSpec)

/-- ITS FALSE NEIGHBOUR: 'it returns false'. Refute it at one input. -/
def roundsWaitWrong : ChangeSpec := { name := "roundsWait", fn := fun _ => fun
  | [d1, d2] => { results := [.lit (.bool false)], args := [d1, d2] }
  | _ => none }
def RoundsWaitWrongFalsely : Prop := roundsWaitRow.holds Try.pinned (OpenSpec.ofChange roundsWaitWrong)

/-- 'leatlaw45.RoundsSend': WHATEVER THE INPUT: true; the input reads as it did. -/
def roundsSendSpec : ChangeSpec := { name := "roundsSend", fn := fun _ => fun
  | [d1, d2] => { results := [.lit (.bool true)], args := [d1, d2] }
  | _ => none }
def roundsSendRow : OpenClaim := { program := "ythoeidcpemfmlaa", sum := "1835b8d65cdd90782fc5d9b2a3f447b635048a105939d25a32fb8424f25910ce", func := "leat/leatlaw45.RoundsSend", spec := "roundsSend", unfollowed := true, recurses := true, apart := false }
def RoundsSendSaid : Prop := roundsSendRow.holds Try.pinned (OpenSpec.ofChange roundsSendSpec)

/-- ITS FALSE NEIGHBOUR: 'it returns false'. Refute it at one input. -/
def roundsSendWrong : ChangeSpec := { name := "roundsSend", fn := fun _ => fun
  | [d1, d2] => { results := [.lit (.bool false)], args := [d1, d2] }
  | _ => none }
def RoundsSendWrongFalsely : Prop := roundsSendRow.holds Try.pinned (OpenSpec.ofChange roundsSendWrong)

/- THE SECOND FORM. 'bulk': how many values and letters a reading holds, each counted each time it is reached (what is shared counts as often as it is met; a slice's spare places count too). A statement '..UptoSaid' is the law's where the arguments, and the package variables that the reading takes, are together of bulk at most 1048576: NARROWER than '..Said'. Prove '..Said' where nothing that the law and all that it calls make is longer than what came in: it says more and counts as full. Else prove '..UptoSaid'. A law counts once. -/
mutual
def uptoBulk {H : Type} : DataW H → Nat
  | .lit (.string bytes) => bytes.length + 1
  | .lit _ => 1
  | .nil => 1
  | .ptr d => uptoBulk d + 1
  | .slice elems spare => uptoBulkAll elems + uptoBulkAll spare + 1
  | .agg parts => uptoBulkAll parts + 1
  | .iface _ d => uptoBulk d + 1
  | .map entries => uptoBulkEntries entries + 1
  | .held _ => 1
def uptoBulkAll {H : Type} : List (DataW H) → Nat
  | [] => 0
  | d :: r => uptoBulk d + uptoBulkAll r
def uptoBulkEntries {H : Type} : List (Lit × DataW H) → Nat
  | [] => 0
  | x :: r => uptoBulkEntry x + uptoBulkEntries r
def uptoBulkEntry {H : Type} : Lit × DataW H → Nat
  | (.string bytes, d) => bytes.length + uptoBulk d + 1
  | (_, d) => uptoBulk d + 1
 end
def uptoSmall : (H : Type) → List (DataW H) → Bool := fun _ ds => decide (uptoBulkAll ds ≤ 1048576)
def OpenSpec.upto (s : _root_.Go.ChangeSpec) : _root_.Go.OpenSpec := { _root_.Go.OpenSpec.ofChange s with cond := some uptoSmall }

/-- 'leatlaw24.RenoGrows', WHERE WHAT IT READS IS OF BULK AT MOST 1048576: true; the input reads as it did. -/
def renoGrowsUptoRow : OpenClaim := { program := "ythoeidcpemfmlaa", sum := "1835b8d65cdd90782fc5d9b2a3f447b635048a105939d25a32fb8424f25910ce", func := "leat/leatlaw24.RenoGrows", spec := "renoGrows", unfollowed := true, recurses := true, apart := false, narrowed := true }
def RenoGrowsUptoSaid : Prop := renoGrowsUptoRow.holds Try.pinned (OpenSpec.upto renoGrowsSpec)

/-- 'leatlaw24.RenoRound', WHERE WHAT IT READS IS OF BULK AT MOST 1048576: true; the input reads as it did. -/
def renoRoundUptoRow : OpenClaim := { program := "ythoeidcpemfmlaa", sum := "1835b8d65cdd90782fc5d9b2a3f447b635048a105939d25a32fb8424f25910ce", func := "leat/leatlaw24.RenoRound", spec := "renoRound", unfollowed := true, recurses := true, apart := false, narrowed := true }
def RenoRoundUptoSaid : Prop := renoRoundUptoRow.holds Try.pinned (OpenSpec.upto renoRoundSpec)

/-- 'leatlaw24.RenoSteps', WHERE WHAT IT READS IS OF BULK AT MOST 1048576: true; the input reads as it did. -/
def renoStepsUptoRow : OpenClaim := { program := "ythoeidcpemfmlaa", sum := "1835b8d65cdd90782fc5d9b2a3f447b635048a105939d25a32fb8424f25910ce", func := "leat/leatlaw24.RenoSteps", spec := "renoSteps", unfollowed := true, recurses := true, apart := false, narrowed := true }
def RenoStepsUptoSaid : Prop := renoStepsUptoRow.holds Try.pinned (OpenSpec.upto renoStepsSpec)

/-- 'leatlaw24.RenoFalls', WHERE WHAT IT READS IS OF BULK AT MOST 1048576: true; the input reads as it did. -/
def renoFallsUptoRow : OpenClaim := { program := "ythoeidcpemfmlaa", sum := "1835b8d65cdd90782fc5d9b2a3f447b635048a105939d25a32fb8424f25910ce", func := "leat/leatlaw24.RenoFalls", spec := "renoFalls", unfollowed := true, recurses := true, apart := false, narrowed := true }
def RenoFallsUptoSaid : Prop := renoFallsUptoRow.holds Try.pinned (OpenSpec.upto renoFallsSpec)

/-- 'leatlaw23.PacerFirst', WHERE WHAT IT READS IS OF BULK AT MOST 1048576: true; the input reads as it did. -/
def pacerFirstUptoRow : OpenClaim := { program := "ythoeidcpemfmlaa", sum := "1835b8d65cdd90782fc5d9b2a3f447b635048a105939d25a32fb8424f25910ce", func := "leat/leatlaw23.PacerFirst", spec := "pacerFirst", unfollowed := true, recurses := true, apart := false, narrowed := true }
def PacerFirstUptoSaid : Prop := pacerFirstUptoRow.holds Try.pinned (OpenSpec.upto pacerFirstSpec)

/-- 'leatlaw23.PacerFills', WHERE WHAT IT READS IS OF BULK AT MOST 1048576: true; the input reads as it did. -/
def pacerFillsUptoRow : OpenClaim := { program := "ythoeidcpemfmlaa", sum := "1835b8d65cdd90782fc5d9b2a3f447b635048a105939d25a32fb8424f25910ce", func := "leat/leatlaw23.PacerFills", spec := "pacerFills", unfollowed := true, recurses := true, apart := false, narrowed := true }
def PacerFillsUptoSaid : Prop := pacerFillsUptoRow.holds Try.pinned (OpenSpec.upto pacerFillsSpec)

/-- 'leatlaw23.PacerBounds', WHERE WHAT IT READS IS OF BULK AT MOST 1048576: true; the input reads as it did. -/
def pacerBoundsUptoRow : OpenClaim := { program := "ythoeidcpemfmlaa", sum := "1835b8d65cdd90782fc5d9b2a3f447b635048a105939d25a32fb8424f25910ce", func := "leat/leatlaw23.PacerBounds", spec := "pacerBounds", unfollowed := true, recurses := true, apart := false, narrowed := true }
def PacerBoundsUptoSaid : Prop := pacerBoundsUptoRow.holds Try.pinned (OpenSpec.upto pacerBoundsSpec)

/-- 'leatlaw23.PacerTells', WHERE WHAT IT READS IS OF BULK AT MOST 1048576: true; the input reads as it did. -/
def pacerTellsUptoRow : OpenClaim := { program := "ythoeidcpemfmlaa", sum := "1835b8d65cdd90782fc5d9b2a3f447b635048a105939d25a32fb8424f25910ce", func := "leat/leatlaw23.PacerTells", spec := "pacerTells", unfollowed := true, recurses := true, apart := false, narrowed := true }
def PacerTellsUptoSaid : Prop := pacerTellsUptoRow.holds Try.pinned (OpenSpec.upto pacerTellsSpec)

/-- 'leatlaw45.RoundsRun', WHERE WHAT IT READS IS OF BULK AT MOST 1048576: true; the input reads as it did. -/
def roundsRunUptoRow : OpenClaim := { program := "ythoeidcpemfmlaa", sum := "1835b8d65cdd90782fc5d9b2a3f447b635048a105939d25a32fb8424f25910ce", func := "leat/leatlaw45.RoundsRun", spec := "roundsRun", unfollowed := true, recurses := true, apart := false, narrowed := true }
def RoundsRunUptoSaid : Prop := roundsRunUptoRow.holds Try.pinned (OpenSpec.upto roundsRunSpec)

/-- 'leatlaw45.RoundsGo', WHERE WHAT IT READS IS OF BULK AT MOST 1048576: true; the input reads as it did. -/
def roundsGoUptoRow : OpenClaim := { program := "ythoeidcpemfmlaa", sum := "1835b8d65cdd90782fc5d9b2a3f447b635048a105939d25a32fb8424f25910ce", func := "leat/leatlaw45.RoundsGo", spec := "roundsGo", unfollowed := true, recurses := true, apart := false, narrowed := true }
def RoundsGoUptoSaid : Prop := roundsGoUptoRow.holds Try.pinned (OpenSpec.upto roundsGoSpec)

/-- 'leatlaw45.RoundsWait', WHERE WHAT IT READS IS OF BULK AT MOST 1048576: true; the input reads as it did. -/
def roundsWaitUptoRow : OpenClaim := { program := "ythoeidcpemfmlaa", sum := "1835b8d65cdd90782fc5d9b2a3f447b635048a105939d25a32fb8424f25910ce", func := "leat/leatlaw45.RoundsWait", spec := "roundsWait", unfollowed := true, recurses := true, apart := false, narrowed := true }
def RoundsWaitUptoSaid : Prop := roundsWaitUptoRow.holds Try.pinned (OpenSpec.upto roundsWaitSpec)

/-- 'leatlaw45.RoundsSend', WHERE WHAT IT READS IS OF BULK AT MOST 1048576: true; the input reads as it did. -/
def roundsSendUptoRow : OpenClaim := { program := "ythoeidcpemfmlaa", sum := "1835b8d65cdd90782fc5d9b2a3f447b635048a105939d25a32fb8424f25910ce", func := "leat/leatlaw45.RoundsSend", spec := "roundsSend", unfollowed := true, recurses := true, apart := false, narrowed := true }
def RoundsSendUptoSaid : Prop := roundsSendUptoRow.holds Try.pinned (OpenSpec.upto roundsSendSpec)

end Rows
end Go.Proofs.Ythoeidcpemfmlaa
