/- Pointers looked at for nil. Conditions: none. -/
import Derived.Test.YthpinlcfcgnilaaXV
import Derived.Test.YthpinlcfcgnilaaXU
namespace Go.Proofs.YthpinlcfcgnilaaX
open Go.RowKit
open Go.Proofs.YthpinlcfcgnilaaW.PrintLast Go.Proofs.YthpinlcfcgnilaaW.PrintWords
set_option linter.unusedVariables false
set_option linter.unusedSimpArgs false
theorem nil_run {P : Program} {f : Operand → Value} {o : Oper} {x : Operand} {a : Addr} (w : World) (hop : o.op = .nilCheck x) (hx : f x = .pointer (some a)) : (execOp f o).run P w = .ok (.value (.pointer (some a))) w := by
  simp only [execOp, hop, hx]
  rfl
section
variable {C : Ctx} {k : List CK} {s : S} {R : List (Nat × Row)} {G : Mem} {arr : Array Oper} {o : Oper} {r : List Oper}
theorem X.nilElt {x : Operand} {A : Option Addr} {j : Nat} (hop : o.op = .nilCheck x) (hx : s.ev x = some (.v (elt A j))) (hg : (guardOk s arr o && s.can o.dst) = true)
    (H : X C (.ops arr r) k (s.put o.dst (.v (elt A j))) R G) : X C (.ops arr (o :: r)) k s R G := by
  simp only [Bool.and_eq_true] at hg
  exact X.val _ hg.1 hg.2 (fun ρ a w hs => nil_run w hop (hs.ev hx)) H
end
section
variable {C : Ctx} {arr : Array Oper} {ρ0 : Nat → Nat} {F : List Pin} {RF : List (Nat × Row)} {G0 G : Mem} {ds : List Nat} {n : Nat} {l l' : Array Bool} {k : List CK} {s : S} {R : List (Nat × Row)}
theorem XD.nilOwn {i : Nat} (o : Oper) {x : Operand} {b off : Nat} (hQ : QOk C) (ho : arr[i]? = some o) (hc : takeB .any arr ds l l' i = true) (hop : o.op = .nilCheck x) (hx : s.ev x = some (.own b off)) (hg : (guardOk s arr o && s.can o.dst) = true) (hd : F.all (offPin o.dst) = true)
    (H : XD C arr ρ0 F RF G0 ds n l' k (s.put o.dst (.own b off)) R G) : XD C arr ρ0 F RF G0 ds (n + 1) l k s R G := by
  refine XD.takeV (.own b off) hQ ho hc hg (fun ρ a w hs => ?_) hd H
  have e1 : (s.pinned F).ev x = some (.own b off) := by cases x <;> exact hx
  exact nil_run w hop (hs.ev e1)
theorem XD.nilElt {i : Nat} (o : Oper) {x : Operand} {A : Option Addr} {j : Nat} (hQ : QOk C) (ho : arr[i]? = some o) (hc : takeB .any arr ds l l' i = true) (hop : o.op = .nilCheck x) (hx : s.ev x = some (.v (elt A j))) (hg : (guardOk s arr o && s.can o.dst) = true) (hd : F.all (offPin o.dst) = true)
    (H : XD C arr ρ0 F RF G0 ds n l' k (s.put o.dst (.v (elt A j))) R G) : XD C arr ρ0 F RF G0 ds (n + 1) l k s R G := by
  refine XD.takeV (.v (elt A j)) hQ ho hc hg (fun ρ a w hs => ?_) hd H
  have e1 : (s.pinned F).ev x = some (.v (elt A j)) := by cases x <;> exact hx
  exact nil_run w hop (hs.ev e1)
end
end Go.Proofs.YthpinlcfcgnilaaX
