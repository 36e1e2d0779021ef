/- Small facts of this session's own: what a value of whole numbers and bools that came in looks like. -/
import Derived.WalkKit
import Derived.ProofKit
namespace Go.Proofs.YtdfbnbhhjhfdaaaMine
open Go.RowKit

theorem cell_int {P : Program} {w : World} {r : Reach} {base : Nat} {u : TypeId} {v : Value} {k : IntKind} (hu : P.underlying u = some (.int k)) (h : Cell.okWide P w r base u v) :
    ∃ n : Int, v = .int k n ∧ (Lit.int k n).wf = true := by
  unfold Cell.okWide Cell.ok at h
  rw [hu] at h
  cases v <;> simp_all [Lit.wf, IntKind.has]

theorem cell_bool {P : Program} {w : World} {r : Reach} {base : Nat} {u : TypeId} {v : Value} (hu : P.underlying u = some .bool) (h : Cell.okWide P w r base u v) :
    ∃ b : Bool, v = .bool b := by
  unfold Cell.okWide Cell.ok at h
  rw [hu] at h
  cases v <;> simp_all

end Go.Proofs.YtdfbnbhhjhfdaaaMine
