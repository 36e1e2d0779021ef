/- Two stretches of a list exchanged, one by one. Plain definitions and laws. Conditions: none. -/
import Derived.Test.YtjgpdbkkpomhjaaYJE
namespace Go.Proofs.YtjgpdbkkpomhjaaX
open Go.RowKit
set_option linter.unusedVariables false
/-- The first k of two stretches exchanged. -/
def swR (l : List Pk) (a b : Nat) : Nat → List Pk
  | 0 => l
  | k + 1 => ((swR l a b k).set (a + k) ((swR l a b k).getD (b + k) pk0)).set (b + k) ((swR l a b k).getD (a + k) pk0)
theorem swR_len (l : List Pk) (a b : Nat) : ∀ k, (swR l a b k).length = l.length
  | 0 => rfl
  | k + 1 => by
    unfold swR
    rw [List.length_set, List.length_set, swR_len l a b k]
/-- Two neighbouring stretches exchanged, as the program goes about it: the first one i long, up to m; the second one j long. -/
inductive Rt (m : Nat) : List Pk → Nat → Nat → List Pk → Prop
  | eq {l : List Pk} {i : Nat} : Rt m l i i (swR l (m - i) m i)
  | gt {l l' : List Pk} {i j : Nat} (h : j < i) (h2 : Rt m (swR l (m - i) m j) (i - j) j l') : Rt m l i j l'
  | lt {l l' : List Pk} {i j : Nat} (h : i < j) (h2 : Rt m (swR l (m - i) (m + j - i) i) i (j - i) l') : Rt m l i j l'
theorem Rt.len {m : Nat} {l l' : List Pk} {i j : Nat} (h : Rt m l i j l') : l'.length = l.length := by
  induction h with
  | eq => exact swR_len _ _ _ _
  | gt _ _ ih => rw [ih, swR_len]
  | lt _ _ ih => rw [ih, swR_len]
end Go.Proofs.YtjgpdbkkpomhjaaX
