/- More events. Conditions: none. -/
import Derived.Test.YtjgpdbkkpomhjaaXI
namespace Go.Proofs.YtjgpdbkkpomhjaaX
open Go.RowKit
set_option linter.unusedVariables false
set_option linter.unusedSimpArgs false
theorem rowAt.none {α : Type} {d : D α} {G : Mem} {A : Option Addr} {xs : List α} (h : rowAt d G A xs) (e : A = none) : xs.length = 0 := by
  cases xs with
  | nil => rfl
  | cons x l =>
    obtain ⟨ad, h1⟩ := h.isSome (i := 0) (by simp)
    rw [e] at h1
    cases h1
section
variable {C : Ctx} {k : List CK} {s : S} {R : List (Nat × Row)} {G : Mem} {arr : Array Oper} {o : Oper} {r : List Oper}
/-- bytes told as a string. -/
theorem X.toStrW {src dst e n c : Nat} {A : Option Addr} {x : Operand} (ns : List Int) (hop : o.op = .convert src dst x) (hx : s.ev x = some (.v (.slice A n c))) (hs : C.P.underlying src = some (.slice e)) (he : C.P.underlying e = some (.int .u8)) (hd : C.P.underlying dst = some .string) (hn : ns.length = n) (hat : At G R A 0 (ns.map (Value.int .u8))) (hA : ∀ w, Mm G R w → A = none → n = 0) (hg : (guardOk s arr o && s.can o.dst) = true)
    (H : X C (.ops arr r) k (s.put o.dst (.v (.string (strOf ns)))) R G) : X C (.ops arr (o :: r)) k s R G := by
  simp only [Bool.and_eq_true] at hg
  refine X.val _ hg.1 hg.2 (fun ρ a w hst => ?_) H
  simp only [execOp, hop, hst.ev hx, AV.real]
  refine run_v ?_
  rw [run_convert_bytes_string w src dst e A n c hs he hd]
  cases A with
  | none =>
    have h0 : n = 0 := hA w hst.mm rfl
    rw [h0] at hn
    rw [List.eq_nil_of_length_eq_zero hn]
    rfl
  | some ad =>
    refine run_bytesToString w ad n c ns ?_
    have := run_loadCells_list (P := C.P) (w := w) (a := ad) (cs := ns.map (Value.int .u8)) (h := fun j v hj => by
      have := (hat w hst.mm j v hj).2
      simpa [adr] using this)
    simpa [hn] using this
end
end Go.Proofs.YtjgpdbkkpomhjaaX
