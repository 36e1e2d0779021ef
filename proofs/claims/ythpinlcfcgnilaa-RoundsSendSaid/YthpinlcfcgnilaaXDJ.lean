/- Two orders that come to one state. Conditions: none. -/
import Derived.Test.YthpinlcfcgnilaaXZ
namespace Go.Proofs.YthpinlcfcgnilaaX
theorem XD.joinG {C : Ctx} {arr : Array Oper} {ρ0 : Nat → Nat} {F : List Pin} {RF : List (Nat × Row)} {G0 G : Mem} {ds : List Nat} {n : Nat} {l : Array Bool} {k : List CK} {s : S} {R : List (Nat × Row)} (s2 : S) (R2 : List (Nat × Row)) (l2 : Array Bool) (n2 : Nat)
    (HJ : ∀ G2, Ge G C.w0.heap.size G2 → XD C arr ρ0 F RF G0 ds n2 l2 k s2 R2 G2) (K : (∀ G2, Ge G C.w0.heap.size G2 → XD C arr ρ0 F RF G0 ds n2 l2 k s2 R2 G2) → XD C arr ρ0 F RF G0 ds n l k s R G) : XD C arr ρ0 F RF G0 ds n l k s R G := K HJ
end Go.Proofs.YthpinlcfcgnilaaX
