/- A part of a law's proof. Conditions: none. -/
import Derived.Test.YtjgpdbkkpomhjaaQYGX
namespace Go.Proofs.YtjgpdbkkpomhjaaX
open Go.RowKit
set_option linter.unusedVariables false
theorem encS_nil {a : Ad} {h : Hd} {xs : List Opt} {d : ByteArray} (he : (encS a h xs d).2 ≠ 0) : (encS a h xs d).1 = [] := by
  unfold encS at he ⊢
  split
  · rfl
  · split
    · rfl
    · split
      · rename_i h1 h2 h3
        rw [if_neg h1, if_neg h2, if_pos h3] at he
        exact absurd rfl he
      · rfl
theorem encS_zero {a : Ad} {h : Hd} {xs : List Opt} {d : ByteArray} (he : (encS a h xs d).2 = 0) : errO xs = 0 ∧ ¬ 65000 < d.size ∧ (h.s5 ≤ 7 ∧ h.s6 ≤ 63) ∧ encS a h xs d = (rawS h xs d (sumS a h xs d), 0) := by
  by_cases h1 : errO xs = 0
  · by_cases h2 : 65000 < d.size
    · rw [encS_long h1 h2] at he
      exact absurd he (by decide)
    · by_cases h3 : h.s5 ≤ 7 ∧ h.s6 ≤ 63
      · exact ⟨h1, h2, h3, encS_fine h1 h2 h3⟩
      · rw [encS_form h1 h2 h3] at he
        exact absurd he (by decide)
  · rw [encS_err h1] at he
    exact absurd he h1
theorem encS_bytes {a : Ad} {h : Hd} {xs : List Opt} {d : ByteArray} (ha : a.ok) (hh : h.ok) : isBytes (encS a h xs d).1 := by
  by_cases he : (encS a h xs d).2 = 0
  · obtain ⟨_, _, ⟨h5, h6⟩, e⟩ := encS_zero he
    rw [e]
    exact rawS_bytes hh xs d (sumS_range ha hh xs d h5 h6) h5 h6
  · rw [encS_nil he]
    intro x hx
    simp at hx
end Go.Proofs.YtjgpdbkkpomhjaaX
