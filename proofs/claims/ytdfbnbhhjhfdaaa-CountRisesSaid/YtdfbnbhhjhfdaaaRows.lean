/-
  No cell of these rows narrows 'for every input' (looked for: loops, veiled, ifaces, maps, wideKeys, modest, calm, conditions, laid).
  DERIVED. THE GIVEN ROWS OF THIS SEAT. 12 by the template 'for every input the law returns true; each argument reads behind the call as it read before'; 0 by the template 'total and deterministic' (their statements: YtdfbnbhhjhfdaaaTotals.lean).
  GIVEN WITH THE SEED: the statements are not yours to turn. If you find one false, say at which input.
  Laid BY PROGRAM, IN A SANDBOX (cutbox-rows.mjs): the forced cells as the released guide's own fill.sh prints them over the translation e7766c3d90e69ed1… (all of the seat's roots in one cut). By AI agents, Wed Nov 11 2026. No macro, syntax, notation, axiom, sorry.
-/
import Derived.Test.YtdfbnbhhjhfdaaaChecked
import GoSem.Claim
import GoSem.ClaimJoined
import GoSem.ClaimMapViews
import Derived.JoinedTies
import Derived.KernelRfl
namespace Go.Proofs.Ytdfbnbhhjhfdaaa
/- THE CELL 'sum', in the pinned program and in every row, IS THE sha256 OF THE DUMP (.gsa) THAT YtdfbnbhhjhfdaaaProg.lean LOADS. Nothing in Lean hashes anything: it is a label: what it is worth is what the hold of that sum in a sandbox is worth. -/
noncomputable def Try.pinned : Pinned := { name := "ytdfbnbhhjhfdaaa", sum := "e7766c3d90e69ed1b07025630008ab7b1cc998b33d5fb1cd6c1e6f086e135367", checked := Try.checked }
namespace Rows
def none {H : Type} : Left H := { results := [], args := [] }

/-- 'leatlaw01.SatDivs': WHATEVER THE INPUT: true; the input reads as it did. -/
def satDivsSpec : ChangeSpec := { name := "satDivs", fn := fun _ => fun
  | [d1, d2] => { results := [.lit (.bool true)], args := [d1, d2] }
  | _ => none }
def satDivsRow : OpenClaim := { program := "ytdfbnbhhjhfdaaa", sum := "e7766c3d90e69ed1b07025630008ab7b1cc998b33d5fb1cd6c1e6f086e135367", func := "leat/leatlaw01.SatDivs", spec := "satDivs", apart := false }
def SatDivsSaid : Prop := satDivsRow.holds Try.pinned (OpenSpec.ofChange satDivsSpec)

/-- ITS FALSE NEIGHBOUR: 'it returns false'. Refute it at one input. -/
def satDivsWrong : ChangeSpec := { name := "satDivs", fn := fun _ => fun
  | [d1, d2] => { results := [.lit (.bool false)], args := [d1, d2] }
  | _ => none }
def SatDivsWrongFalsely : Prop := satDivsRow.holds Try.pinned (OpenSpec.ofChange satDivsWrong)

/-- 'leatlaw01.SatClamps': WHATEVER THE INPUT: true; the input reads as it did. -/
def satClampsSpec : ChangeSpec := { name := "satClamps", fn := fun _ => fun
  | [d1, d2, d3] => { results := [.lit (.bool true)], args := [d1, d2, d3] }
  | _ => none }
def satClampsRow : OpenClaim := { program := "ytdfbnbhhjhfdaaa", sum := "e7766c3d90e69ed1b07025630008ab7b1cc998b33d5fb1cd6c1e6f086e135367", func := "leat/leatlaw01.SatClamps", spec := "satClamps", apart := false }
def SatClampsSaid : Prop := satClampsRow.holds Try.pinned (OpenSpec.ofChange satClampsSpec)

/-- ITS FALSE NEIGHBOUR: 'it returns false'. Refute it at one input. -/
def satClampsWrong : ChangeSpec := { name := "satClamps", fn := fun _ => fun
  | [d1, d2, d3] => { results := [.lit (.bool false)], args := [d1, d2, d3] }
  | _ => none }
def SatClampsWrongFalsely : Prop := satClampsRow.holds Try.pinned (OpenSpec.ofChange satClampsWrong)

/-- 'leatlaw01.SatAdds': WHATEVER THE INPUT: true; the input reads as it did. -/
def satAddsSpec : ChangeSpec := { name := "satAdds", fn := fun _ => fun
  | [d1, d2] => { results := [.lit (.bool true)], args := [d1, d2] }
  | _ => none }
def satAddsRow : OpenClaim := { program := "ytdfbnbhhjhfdaaa", sum := "e7766c3d90e69ed1b07025630008ab7b1cc998b33d5fb1cd6c1e6f086e135367", func := "leat/leatlaw01.SatAdds", spec := "satAdds", apart := false }
def SatAddsSaid : Prop := satAddsRow.holds Try.pinned (OpenSpec.ofChange satAddsSpec)

/-- ITS FALSE NEIGHBOUR: 'it returns false'. Refute it at one input. -/
def satAddsWrong : ChangeSpec := { name := "satAdds", fn := fun _ => fun
  | [d1, d2] => { results := [.lit (.bool false)], args := [d1, d2] }
  | _ => none }
def SatAddsWrongFalsely : Prop := satAddsRow.holds Try.pinned (OpenSpec.ofChange satAddsWrong)

/-- 'leatlaw01.SatMuls': WHATEVER THE INPUT: true; the input reads as it did. -/
def satMulsSpec : ChangeSpec := { name := "satMuls", fn := fun _ => fun
  | [d1, d2] => { results := [.lit (.bool true)], args := [d1, d2] }
  | _ => none }
def satMulsRow : OpenClaim := { program := "ytdfbnbhhjhfdaaa", sum := "e7766c3d90e69ed1b07025630008ab7b1cc998b33d5fb1cd6c1e6f086e135367", func := "leat/leatlaw01.SatMuls", spec := "satMuls", apart := false }
def SatMulsSaid : Prop := satMulsRow.holds Try.pinned (OpenSpec.ofChange satMulsSpec)

/-- ITS FALSE NEIGHBOUR: 'it returns false'. Refute it at one input. -/
def satMulsWrong : ChangeSpec := { name := "satMuls", fn := fun _ => fun
  | [d1, d2] => { results := [.lit (.bool false)], args := [d1, d2] }
  | _ => none }
def SatMulsWrongFalsely : Prop := satMulsRow.holds Try.pinned (OpenSpec.ofChange satMulsWrong)

/-- 'leatlaw01.SatLaws': WHATEVER THE INPUT: true; the input reads as it did. -/
def satLawsSpec : ChangeSpec := { name := "satLaws", fn := fun _ => fun
  | [d1, d2] => { results := [.lit (.bool true)], args := [d1, d2] }
  | _ => none }
def satLawsRow : OpenClaim := { program := "ytdfbnbhhjhfdaaa", sum := "e7766c3d90e69ed1b07025630008ab7b1cc998b33d5fb1cd6c1e6f086e135367", func := "leat/leatlaw01.SatLaws", spec := "satLaws", apart := false }
def SatLawsSaid : Prop := satLawsRow.holds Try.pinned (OpenSpec.ofChange satLawsSpec)

/-- ITS FALSE NEIGHBOUR: 'it returns false'. Refute it at one input. -/
def satLawsWrong : ChangeSpec := { name := "satLaws", fn := fun _ => fun
  | [d1, d2] => { results := [.lit (.bool false)], args := [d1, d2] }
  | _ => none }
def SatLawsWrongFalsely : Prop := satLawsRow.holds Try.pinned (OpenSpec.ofChange satLawsWrong)

/-- 'leatlaw15.CountTakes': WHATEVER THE INPUT: true; the input reads as it did. -/
def countTakesSpec : ChangeSpec := { name := "countTakes", fn := fun _ => fun
  | [d1, d2, d3] => { results := [.lit (.bool true)], args := [d1, d2, d3] }
  | _ => none }
def countTakesRow : OpenClaim := { program := "ytdfbnbhhjhfdaaa", sum := "e7766c3d90e69ed1b07025630008ab7b1cc998b33d5fb1cd6c1e6f086e135367", func := "leat/leatlaw15.CountTakes", spec := "countTakes", unfollowed := true, recurses := true, apart := false }
def CountTakesSaid : Prop := countTakesRow.holds Try.pinned (OpenSpec.ofChange countTakesSpec)

/-- ITS FALSE NEIGHBOUR: 'it returns false'. Refute it at one input. -/
def countTakesWrong : ChangeSpec := { name := "countTakes", fn := fun _ => fun
  | [d1, d2, d3] => { results := [.lit (.bool false)], args := [d1, d2, d3] }
  | _ => none }
def CountTakesWrongFalsely : Prop := countTakesRow.holds Try.pinned (OpenSpec.ofChange countTakesWrong)

/-- 'leatlaw15.CountRises': WHATEVER THE INPUT: true; the input reads as it did. -/
def countRisesSpec : ChangeSpec := { name := "countRises", fn := fun _ => fun
  | [d1, d2, d3] => { results := [.lit (.bool true)], args := [d1, d2, d3] }
  | _ => none }
def countRisesRow : OpenClaim := { program := "ytdfbnbhhjhfdaaa", sum := "e7766c3d90e69ed1b07025630008ab7b1cc998b33d5fb1cd6c1e6f086e135367", func := "leat/leatlaw15.CountRises", spec := "countRises", unfollowed := true, recurses := true, apart := false }
def CountRisesSaid : Prop := countRisesRow.holds Try.pinned (OpenSpec.ofChange countRisesSpec)

/-- ITS FALSE NEIGHBOUR: 'it returns false'. Refute it at one input. -/
def countRisesWrong : ChangeSpec := { name := "countRises", fn := fun _ => fun
  | [d1, d2, d3] => { results := [.lit (.bool false)], args := [d1, d2, d3] }
  | _ => none }
def CountRisesWrongFalsely : Prop := countRisesRow.holds Try.pinned (OpenSpec.ofChange countRisesWrong)

/-- 'leatlaw15.CountTells': WHATEVER THE INPUT: true; the input reads as it did. -/
def countTellsSpec : ChangeSpec := { name := "countTells", fn := fun _ => fun
  | [d1, d2] => { results := [.lit (.bool true)], args := [d1, d2] }
  | _ => none }
def countTellsRow : OpenClaim := { program := "ytdfbnbhhjhfdaaa", sum := "e7766c3d90e69ed1b07025630008ab7b1cc998b33d5fb1cd6c1e6f086e135367", func := "leat/leatlaw15.CountTells", spec := "countTells", unfollowed := true, recurses := true, apart := false }
def CountTellsSaid : Prop := countTellsRow.holds Try.pinned (OpenSpec.ofChange countTellsSpec)

/-- ITS FALSE NEIGHBOUR: 'it returns false'. Refute it at one input. -/
def countTellsWrong : ChangeSpec := { name := "countTells", fn := fun _ => fun
  | [d1, d2] => { results := [.lit (.bool false)], args := [d1, d2] }
  | _ => none }
def CountTellsWrongFalsely : Prop := countTellsRow.holds Try.pinned (OpenSpec.ofChange countTellsWrong)

/-- 'leatlaw20.RttSamples': WHATEVER THE INPUT: true; the input reads as it did. -/
def rttSamplesSpec : ChangeSpec := { name := "rttSamples", fn := fun _ => fun
  | [d1, d2, d3] => { results := [.lit (.bool true)], args := [d1, d2, d3] }
  | _ => none }
def rttSamplesRow : OpenClaim := { program := "ytdfbnbhhjhfdaaa", sum := "e7766c3d90e69ed1b07025630008ab7b1cc998b33d5fb1cd6c1e6f086e135367", func := "leat/leatlaw20.RttSamples", spec := "rttSamples", unfollowed := true, recurses := true, apart := false }
def RttSamplesSaid : Prop := rttSamplesRow.holds Try.pinned (OpenSpec.ofChange rttSamplesSpec)

/-- ITS FALSE NEIGHBOUR: 'it returns false'. Refute it at one input. -/
def rttSamplesWrong : ChangeSpec := { name := "rttSamples", fn := fun _ => fun
  | [d1, d2, d3] => { results := [.lit (.bool false)], args := [d1, d2, d3] }
  | _ => none }
def RttSamplesWrongFalsely : Prop := rttSamplesRow.holds Try.pinned (OpenSpec.ofChange rttSamplesWrong)

/-- 'leatlaw20.RttBetween': WHATEVER THE INPUT: true; the input reads as it did. -/
def rttBetweenSpec : ChangeSpec := { name := "rttBetween", fn := fun _ => fun
  | [d] => { results := [.lit (.bool true)], args := [d] }
  | _ => none }
def rttBetweenRow : OpenClaim := { program := "ytdfbnbhhjhfdaaa", sum := "e7766c3d90e69ed1b07025630008ab7b1cc998b33d5fb1cd6c1e6f086e135367", func := "leat/leatlaw20.RttBetween", spec := "rttBetween", unfollowed := true, recurses := true, apart := false }
def RttBetweenSaid : Prop := rttBetweenRow.holds Try.pinned (OpenSpec.ofChange rttBetweenSpec)

/-- ITS FALSE NEIGHBOUR: 'it returns false'. Refute it at one input. -/
def rttBetweenWrong : ChangeSpec := { name := "rttBetween", fn := fun _ => fun
  | [d] => { results := [.lit (.bool false)], args := [d] }
  | _ => none }
def RttBetweenWrongFalsely : Prop := rttBetweenRow.holds Try.pinned (OpenSpec.ofChange rttBetweenWrong)

/-- 'leatlaw20.RttSettles': WHATEVER THE INPUT: true; the input reads as it did. -/
def rttSettlesSpec : ChangeSpec := { name := "rttSettles", fn := fun _ => fun
  | [d] => { results := [.lit (.bool true)], args := [d] }
  | _ => none }
def rttSettlesRow : OpenClaim := { program := "ytdfbnbhhjhfdaaa", sum := "e7766c3d90e69ed1b07025630008ab7b1cc998b33d5fb1cd6c1e6f086e135367", func := "leat/leatlaw20.RttSettles", spec := "rttSettles", unfollowed := true, recurses := true, apart := false }
def RttSettlesSaid : Prop := rttSettlesRow.holds Try.pinned (OpenSpec.ofChange rttSettlesSpec)

/-- ITS FALSE NEIGHBOUR: 'it returns false'. Refute it at one input. -/
def rttSettlesWrong : ChangeSpec := { name := "rttSettles", fn := fun _ => fun
  | [d] => { results := [.lit (.bool false)], args := [d] }
  | _ => none }
def RttSettlesWrongFalsely : Prop := rttSettlesRow.holds Try.pinned (OpenSpec.ofChange rttSettlesWrong)

/-- 'leatlaw20.RttWaits': WHATEVER THE INPUT: true; the input reads as it did. -/
def rttWaitsSpec : ChangeSpec := { name := "rttWaits", fn := fun _ => fun
  | [d1, d2, d3] => { results := [.lit (.bool true)], args := [d1, d2, d3] }
  | _ => none }
def rttWaitsRow : OpenClaim := { program := "ytdfbnbhhjhfdaaa", sum := "e7766c3d90e69ed1b07025630008ab7b1cc998b33d5fb1cd6c1e6f086e135367", func := "leat/leatlaw20.RttWaits", spec := "rttWaits", unfollowed := true, recurses := true, apart := false }
def RttWaitsSaid : Prop := rttWaitsRow.holds Try.pinned (OpenSpec.ofChange rttWaitsSpec)

/-- ITS FALSE NEIGHBOUR: 'it returns false'. Refute it at one input. -/
def rttWaitsWrong : ChangeSpec := { name := "rttWaits", fn := fun _ => fun
  | [d1, d2, d3] => { results := [.lit (.bool false)], args := [d1, d2, d3] }
  | _ => none }
def RttWaitsWrongFalsely : Prop := rttWaitsRow.holds Try.pinned (OpenSpec.ofChange rttWaitsWrong)

/- THE SECOND FORM. 'bulk': how many values and letters a reading holds, each counted each time it is reached (what is shared counts as often as it is met; a slice's spare places count too). A statement '..UptoSaid' is the law's where the arguments, and the package variables that the reading takes, are together of bulk at most 1048576: NARROWER than '..Said'. Prove '..Said' where nothing that the law and all that it calls make is longer than what came in: it says more and counts as full. Else prove '..UptoSaid'. A law counts once. -/
mutual
def uptoBulk {H : Type} : DataW H → Nat
  | .lit (.string bytes) => bytes.length + 1
  | .lit _ => 1
  | .nil => 1
  | .ptr d => uptoBulk d + 1
  | .slice elems spare => uptoBulkAll elems + uptoBulkAll spare + 1
  | .agg parts => uptoBulkAll parts + 1
  | .iface _ d => uptoBulk d + 1
  | .map entries => uptoBulkEntries entries + 1
  | .held _ => 1
def uptoBulkAll {H : Type} : List (DataW H) → Nat
  | [] => 0
  | d :: r => uptoBulk d + uptoBulkAll r
def uptoBulkEntries {H : Type} : List (Lit × DataW H) → Nat
  | [] => 0
  | x :: r => uptoBulkEntry x + uptoBulkEntries r
def uptoBulkEntry {H : Type} : Lit × DataW H → Nat
  | (.string bytes, d) => bytes.length + uptoBulk d + 1
  | (_, d) => uptoBulk d + 1
 end
def uptoSmall : (H : Type) → List (DataW H) → Bool := fun _ ds => decide (uptoBulkAll ds ≤ 1048576)
def OpenSpec.upto (s : _root_.Go.ChangeSpec) : _root_.Go.OpenSpec := { _root_.Go.OpenSpec.ofChange s with cond := some uptoSmall }

/-- 'leatlaw01.SatDivs', WHERE WHAT IT READS IS OF BULK AT MOST 1048576: true; the input reads as it did. -/
def satDivsUptoRow : OpenClaim := { program := "ytdfbnbhhjhfdaaa", sum := "e7766c3d90e69ed1b07025630008ab7b1cc998b33d5fb1cd6c1e6f086e135367", func := "leat/leatlaw01.SatDivs", spec := "satDivs", apart := false, narrowed := true }
def SatDivsUptoSaid : Prop := satDivsUptoRow.holds Try.pinned (OpenSpec.upto satDivsSpec)

/-- 'leatlaw01.SatClamps', WHERE WHAT IT READS IS OF BULK AT MOST 1048576: true; the input reads as it did. -/
def satClampsUptoRow : OpenClaim := { program := "ytdfbnbhhjhfdaaa", sum := "e7766c3d90e69ed1b07025630008ab7b1cc998b33d5fb1cd6c1e6f086e135367", func := "leat/leatlaw01.SatClamps", spec := "satClamps", apart := false, narrowed := true }
def SatClampsUptoSaid : Prop := satClampsUptoRow.holds Try.pinned (OpenSpec.upto satClampsSpec)

/-- 'leatlaw01.SatAdds', WHERE WHAT IT READS IS OF BULK AT MOST 1048576: true; the input reads as it did. -/
def satAddsUptoRow : OpenClaim := { program := "ytdfbnbhhjhfdaaa", sum := "e7766c3d90e69ed1b07025630008ab7b1cc998b33d5fb1cd6c1e6f086e135367", func := "leat/leatlaw01.SatAdds", spec := "satAdds", apart := false, narrowed := true }
def SatAddsUptoSaid : Prop := satAddsUptoRow.holds Try.pinned (OpenSpec.upto satAddsSpec)

/-- 'leatlaw01.SatMuls', WHERE WHAT IT READS IS OF BULK AT MOST 1048576: true; the input reads as it did. -/
def satMulsUptoRow : OpenClaim := { program := "ytdfbnbhhjhfdaaa", sum := "e7766c3d90e69ed1b07025630008ab7b1cc998b33d5fb1cd6c1e6f086e135367", func := "leat/leatlaw01.SatMuls", spec := "satMuls", apart := false, narrowed := true }
def SatMulsUptoSaid : Prop := satMulsUptoRow.holds Try.pinned (OpenSpec.upto satMulsSpec)

/-- 'leatlaw01.SatLaws', WHERE WHAT IT READS IS OF BULK AT MOST 1048576: true; the input reads as it did. -/
def satLawsUptoRow : OpenClaim := { program := "ytdfbnbhhjhfdaaa", sum := "e7766c3d90e69ed1b07025630008ab7b1cc998b33d5fb1cd6c1e6f086e135367", func := "leat/leatlaw01.SatLaws", spec := "satLaws", apart := false, narrowed := true }
def SatLawsUptoSaid : Prop := satLawsUptoRow.holds Try.pinned (OpenSpec.upto satLawsSpec)

/-- 'leatlaw15.CountTakes', WHERE WHAT IT READS IS OF BULK AT MOST 1048576: true; the input reads as it did. -/
def countTakesUptoRow : OpenClaim := { program := "ytdfbnbhhjhfdaaa", sum := "e7766c3d90e69ed1b07025630008ab7b1cc998b33d5fb1cd6c1e6f086e135367", func := "leat/leatlaw15.CountTakes", spec := "countTakes", unfollowed := true, recurses := true, apart := false, narrowed := true }
def CountTakesUptoSaid : Prop := countTakesUptoRow.holds Try.pinned (OpenSpec.upto countTakesSpec)

/-- 'leatlaw15.CountRises', WHERE WHAT IT READS IS OF BULK AT MOST 1048576: true; the input reads as it did. -/
def countRisesUptoRow : OpenClaim := { program := "ytdfbnbhhjhfdaaa", sum := "e7766c3d90e69ed1b07025630008ab7b1cc998b33d5fb1cd6c1e6f086e135367", func := "leat/leatlaw15.CountRises", spec := "countRises", unfollowed := true, recurses := true, apart := false, narrowed := true }
def CountRisesUptoSaid : Prop := countRisesUptoRow.holds Try.pinned (OpenSpec.upto countRisesSpec)

/-- 'leatlaw15.CountTells', WHERE WHAT IT READS IS OF BULK AT MOST 1048576: true; the input reads as it did. -/
def countTellsUptoRow : OpenClaim := { program := "ytdfbnbhhjhfdaaa", sum := "e7766c3d90e69ed1b07025630008ab7b1cc998b33d5fb1cd6c1e6f086e135367", func := "leat/leatlaw15.CountTells", spec := "countTells", unfollowed := true, recurses := true, apart := false, narrowed := true }
def CountTellsUptoSaid : Prop := countTellsUptoRow.holds Try.pinned (OpenSpec.upto countTellsSpec)

/-- 'leatlaw20.RttSamples', WHERE WHAT IT READS IS OF BULK AT MOST 1048576: true; the input reads as it did. -/
def rttSamplesUptoRow : OpenClaim := { program := "ytdfbnbhhjhfdaaa", sum := "e7766c3d90e69ed1b07025630008ab7b1cc998b33d5fb1cd6c1e6f086e135367", func := "leat/leatlaw20.RttSamples", spec := "rttSamples", unfollowed := true, recurses := true, apart := false, narrowed := true }
def RttSamplesUptoSaid : Prop := rttSamplesUptoRow.holds Try.pinned (OpenSpec.upto rttSamplesSpec)

/-- 'leatlaw20.RttBetween', WHERE WHAT IT READS IS OF BULK AT MOST 1048576: true; the input reads as it did. -/
def rttBetweenUptoRow : OpenClaim := { program := "ytdfbnbhhjhfdaaa", sum := "e7766c3d90e69ed1b07025630008ab7b1cc998b33d5fb1cd6c1e6f086e135367", func := "leat/leatlaw20.RttBetween", spec := "rttBetween", unfollowed := true, recurses := true, apart := false, narrowed := true }
def RttBetweenUptoSaid : Prop := rttBetweenUptoRow.holds Try.pinned (OpenSpec.upto rttBetweenSpec)

/-- 'leatlaw20.RttSettles', WHERE WHAT IT READS IS OF BULK AT MOST 1048576: true; the input reads as it did. -/
def rttSettlesUptoRow : OpenClaim := { program := "ytdfbnbhhjhfdaaa", sum := "e7766c3d90e69ed1b07025630008ab7b1cc998b33d5fb1cd6c1e6f086e135367", func := "leat/leatlaw20.RttSettles", spec := "rttSettles", unfollowed := true, recurses := true, apart := false, narrowed := true }
def RttSettlesUptoSaid : Prop := rttSettlesUptoRow.holds Try.pinned (OpenSpec.upto rttSettlesSpec)

/-- 'leatlaw20.RttWaits', WHERE WHAT IT READS IS OF BULK AT MOST 1048576: true; the input reads as it did. -/
def rttWaitsUptoRow : OpenClaim := { program := "ytdfbnbhhjhfdaaa", sum := "e7766c3d90e69ed1b07025630008ab7b1cc998b33d5fb1cd6c1e6f086e135367", func := "leat/leatlaw20.RttWaits", spec := "rttWaits", unfollowed := true, recurses := true, apart := false, narrowed := true }
def RttWaitsUptoSaid : Prop := rttWaitsUptoRow.holds Try.pinned (OpenSpec.upto rttWaitsSpec)

end Rows
end Go.Proofs.Ytdfbnbhhjhfdaaa
