/- What is asked of the program as a whole, once for the seat. Conditions: none. -/
import Derived.Test.YthpinlcfcgnilaaRows
import Derived.KernelRfl
import Derived.JoinedOf
namespace Go.Proofs.YthpinlcfcgnilaaX.Whole
set_option maxRecDepth 100000
theorem enters : Go.Proofs.Ythpinlcfcgnilaa.Try.pinned.checked.prog.mayEnter = true := by kernel_rfl
theorem lifts : Go.Proofs.Ythpinlcfcgnilaa.Try.pinned.checked.prog.liftsFinal = Go.Proofs.Ythpinlcfcgnilaa.Rows.heapNilRow.lifted := by kernel_rfl
theorem makes : Go.Proofs.Ythpinlcfcgnilaa.Try.pinned.checked.prog.make = some Go.Proofs.Ythpinlcfcgnilaa.Rows.heapNilRow.make := by kernel_rfl
theorem laidOut : laidOutB Try.prog = true := by kernel_rfl
end Go.Proofs.YthpinlcfcgnilaaX.Whole
