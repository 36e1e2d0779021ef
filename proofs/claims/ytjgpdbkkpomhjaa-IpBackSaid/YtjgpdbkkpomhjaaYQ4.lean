/- Two lists in order, merged in halves: plain laws. Conditions: none. -/
import Derived.Test.YtjgpdbkkpomhjaaYQ3
namespace Go.Proofs.YtjgpdbkkpomhjaaX
open Go.RowKit
set_option linter.unusedVariables false
section
variable {α : Type} {pl : α → Int}
theorem SortedP.cut {S : List α} (h : SortedP pl S) (p : Nat) : ∀ x ∈ S.take p, ∀ y ∈ S.drop p, pl x ≤ pl y := by
  have h2 : SortedP pl (S.take p ++ S.drop p) := by rw [List.take_append_drop]; exact h
  exact (List.pairwise_append.mp h2).2.2
theorem merge_join {S1 S2 T1 T2 : List α} {p1 p2 : Nat} (h1 : SortedP pl S1) (h2 : SortedP pl S2) (hT1 : T1.Perm (S1.take p1 ++ S2.take p2)) (hs1 : SortedP pl T1) (hT2 : T2.Perm (S1.drop p1 ++ S2.drop p2)) (hs2 : SortedP pl T2)
    (hx : ∀ x ∈ S1.take p1, ∀ y ∈ S2.drop p2, pl x ≤ pl y) (hy : ∀ x ∈ S2.take p2, ∀ y ∈ S1.drop p1, pl x ≤ pl y) : (T1 ++ T2).Perm (S1 ++ S2) ∧ SortedP pl (T1 ++ T2) := by
  refine ⟨?_, List.pairwise_append.mpr ⟨hs1, hs2, fun x hx1 y hy1 => ?_⟩⟩
  · refine (hT1.append hT2).trans ?_
    have e : S1 ++ S2 = S1.take p1 ++ (S1.drop p1 ++ (S2.take p2 ++ S2.drop p2)) := by
      rw [List.take_append_drop, ← List.append_assoc, List.take_append_drop]
    rw [e, List.append_assoc]
    refine List.Perm.append_left _ ?_
    rw [← List.append_assoc, ← List.append_assoc]
    exact List.Perm.append_right _ List.perm_append_comm
  · have a := hT1.mem_iff.mp hx1
    have b := hT2.mem_iff.mp hy1
    rcases List.mem_append.mp a with a | a <;> rcases List.mem_append.mp b with b | b
    · exact h1.cut p1 x a y b
    · exact hx x a y b
    · exact hy x a y b
    · exact h2.cut p2 x a y b
theorem take_le {S : List α} (hS : SortedP pl S) (d : α) {k : Nat} {v : Int} (hk : k ≤ S.length) (h : k = 0 ∨ pl (S.getD (k - 1) d) ≤ v) : ∀ y ∈ S.take k, pl y ≤ v := by
  intro y hy
  obtain ⟨j, hj, he⟩ := List.getElem_of_mem hy
  rw [List.length_take] at hj
  rw [List.getElem_take] at he
  have e : S.getD j d = y := by rw [← he]; simp [List.getD, show j < S.length by omega]
  rw [← e]
  rcases h with h | h
  · omega
  · exact Int.le_trans (hS.get d (by omega) (by omega)) h
theorem drop_ge {S : List α} (hS : SortedP pl S) (d : α) {k : Nat} {v : Int} (h : S.length ≤ k ∨ v ≤ pl (S.getD k d)) : ∀ y ∈ S.drop k, v ≤ pl y := by
  intro y hy
  obtain ⟨j, hj, he⟩ := List.getElem_of_mem hy
  rw [List.length_drop] at hj
  rw [List.getElem_drop] at he
  have e : S.getD (k + j) d = y := by rw [← he]; simp [List.getD, show k + j < S.length by omega]
  rw [← e]
  rcases h with h | h
  · omega
  · exact Int.le_trans h (hS.get d (by omega) (by omega))
theorem put_between {S : List α} {x : α} {k : Nat} (hS : SortedP pl S) (h1 : ∀ y ∈ S.take k, pl y ≤ pl x) (h2 : ∀ y ∈ S.drop k, pl x ≤ pl y) : (S.take k ++ x :: S.drop k).Perm (x :: S) ∧ SortedP pl (S.take k ++ x :: S.drop k) := by
  refine ⟨?_, List.pairwise_append.mpr ⟨hS.sublist (List.take_sublist k S), List.pairwise_cons.mpr ⟨h2, hS.sublist (List.drop_sublist k S)⟩, fun a ha b hb => ?_⟩⟩
  · refine List.perm_middle.trans ?_
    rw [List.take_append_drop]
  · rcases List.mem_cons.mp hb with rfl | hb
    · exact h1 a ha
    · exact hS.cut k a ha b hb
end
end Go.Proofs.YtjgpdbkkpomhjaaX
