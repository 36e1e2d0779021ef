/- A part of a law's proof. Conditions: none. -/
import Derived.Test.YtjgpdbkkpomhjaaRows
import Derived.KernelRfl
import Derived.JoinedOf
namespace Go.Proofs.YtjgpdbkkpomhjaaX.Whole
set_option maxRecDepth 100000
theorem enters : Go.Proofs.Ytjgpdbkkpomhjaa.Try.pinned.checked.prog.mayEnter = true := by kernel_rfl
theorem lifts : Go.Proofs.Ytjgpdbkkpomhjaa.Try.pinned.checked.prog.liftsFinal = Go.Proofs.Ytjgpdbkkpomhjaa.Rows.sumSumsRow.lifted := by kernel_rfl
theorem makes : Go.Proofs.Ytjgpdbkkpomhjaa.Try.pinned.checked.prog.make = some Go.Proofs.Ytjgpdbkkpomhjaa.Rows.sumSumsRow.make := by kernel_rfl
theorem laidOut : laidOutB Try.prog = true := by kernel_rfl
end Go.Proofs.YtjgpdbkkpomhjaaX.Whole
