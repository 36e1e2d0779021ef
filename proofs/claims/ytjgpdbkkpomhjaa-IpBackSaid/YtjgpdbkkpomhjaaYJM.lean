/- The chapter's example. Conditions: none. -/
import Derived.Test.YtjgpdbkkpomhjaaYJG
import Derived.KernelRfl
namespace Go.Proofs.YtjgpdbkkpomhjaaX
open Go.RowKit
def h9 : Ih := ⟨0, 9, 0, 0, 0, 0, 0, 0, 0, 0, 0, 0, 0⟩
def d100 : ByteArray := strOf (List.replicate 100 0)
set_option maxRecDepth 100000
theorem ex_dec46 : decI (encI h9 d100).1 = ((h9, d100), 0) := by kernel_rfl
theorem ex_len46 : (splS h9 d100 68).map List.length = [68, 68, 24] := by decide +kernel
theorem ex_join46 : joinI (splS h9 d100 68) = encI h9 d100 := by decide +kernel
theorem h9_ok : h9.ok := by constructor <;> decide
theorem d100_size : d100.size = 100 := by decide +kernel
theorem ex_e46 : (encI h9 d100).2 = 0 := by decide +kernel
theorem ex_three : (splS h9 d100 68).length = 3 := by
  have := congrArg List.length ex_len46
  simpa using this
theorem ex_at0 : ((splS h9 d100 68).getD 0 []).length = 68 := by decide +kernel
theorem ex_at2 : ((splS h9 d100 68).getD 2 []).length = 24 := by decide +kernel
end Go.Proofs.YtjgpdbkkpomhjaaX
