/- leatlaw06.HeapMerges, of events as they come in. Conditions: none. -/
import Derived.Test.YthpinlcfcgnilaaYHNb
namespace Go.Proofs.YthpinlcfcgnilaaX
open Go.RowKit
def ev4D : D Ev := D.pair (D.int .i64) (D.pair (D.int .i64) (D.pair (D.int .i64) (D.int .i64)))
theorem ev4_ev {G : Mem} {A : Option Addr} {xs : List Ev} (h : rowAt ev4D G A xs) : rowAt evD G A xs := fun i hi => by
  obtain ⟨ad, cs, h1, h2, h3⟩ := h i hi
  obtain ⟨c0, c1, rfl, ⟨rfl, _⟩, c2, c3, rfl, ⟨rfl, _⟩, c4, c5, rfl, ⟨rfl, _⟩, ⟨rfl, _⟩⟩ := h2
  exact ⟨ad, _, h1, rfl, h3⟩
theorem HeapMerges_okR (A A2 : Option Addr) (c d : Nat) (ea eb : List Ev) (G : Mem) (hra : rowAt ev4D G A ea) (hrb : rowAt ev4D G A2 eb) (hlea : ea.length ≤ c) (hleb : eb.length ≤ d) (hmxa : c ≤ maxLen) (hmxb : d ≤ maxLen) : CallsG Try.prog 13 [.slice A ea.length c, .slice A2 eb.length d] G (fun _ v rows => v = .bool true ∧ rows = []) :=
  HeapMerges_ok A A2 c d ea eb G (ev4_ev hra) (ev4_ev hrb) hlea hleb hmxa hmxb
end Go.Proofs.YthpinlcfcgnilaaX
