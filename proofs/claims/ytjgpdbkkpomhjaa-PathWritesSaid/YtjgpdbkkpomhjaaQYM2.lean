/- A part of a law's proof. Conditions: none. -/
import Derived.Test.YtjgpdbkkpomhjaaQYM0
namespace Go.Proofs.YtjgpdbkkpomhjaaX
open Go.RowKit
set_option linter.unusedVariables false
theorem optB_fine {b : List Int} (hb : isBytes b) (h : (optB b).2 = 0) : ∀ o ∈ (optB b).1, fineB o = true := by
  have hs : isBytes ((b.take (offB b)).drop 20) := fun x hx => hb x (List.mem_of_mem_take (List.mem_of_mem_drop hx))
  by_cases h40 : ((b.take (offB b)).drop 20).length ≤ 40
  · have e : optB b = parseO [] ((b.take (offB b)).drop 20) := optP_of (by omega)
    have h2 : parseO [] ((b.take (offB b)).drop 20) = ((optB b).1, 0) := by rw [← e, ← h]
    obtain ⟨l, h3, h4, _⟩ := parse_fine _ _ [] _ (Nat.le_refl _) hs h2
    rw [h3, List.nil_append]
    exact chk_all h4
  · have e : optB b = ([], 4) := optP_long (by omega)
    rw [e] at h
    cases h
theorem bor32 (a b : Int) : 0 ≤ bor .u32 a b ∧ bor .u32 a b ≤ 4294967295 := by unfold bor; rw [u32_wrap]; omega
theorem band8 (a b : Int) : 0 ≤ band .u8 a b ∧ band .u8 a b ≤ 255 := by unfold band; rw [u8_wrap]; omega
theorem seg_parts {a : Ad} {b : List Int} {g : Hd} {os : List Opt} {d : ByteArray} {e : Int} (hb : isBytes b) (h : decS a b = ((g, os, d), e)) : (0 ≤ g.s3 ∧ g.s3 ≤ 4294967295) ∧ (0 ≤ g.s6 ∧ g.s6 ≤ 255) ∧ (e = 0 → ∀ o ∈ os, fineB o = true) := by
  have z : ∀ e', decS a b = (seg0, e') → e' ≠ 0 → (0 ≤ g.s3 ∧ g.s3 ≤ 4294967295) ∧ (0 ≤ g.s6 ∧ g.s6 ≤ 255) ∧ (e = 0 → ∀ o ∈ os, fineB o = true) := fun e' h1 h2 => by
    rw [h1] at h
    injection h with h3 h4
    injection h3 with h5 h6
    subst h5 h4
    exact ⟨by decide, by decide, fun h7 => absurd h7 h2⟩
  by_cases h0 : b.length < 20
  · exact z 3 (decS_short h0) (by decide)
  by_cases h1 : badH b
  · exact z 5 (decS_form (by omega) h1) (by decide)
  by_cases h2 : b.length < offB b
  · exact z 3 (decS_cut (by omega) h1 h2) (by decide)
  by_cases h3 : 65535 < b.length
  · exact z 4 (decS_long (by omega) h1 h2 h3) (by decide)
  by_cases h4 : cks (psd a b.length ++ b) = 0
  · by_cases h5 : (optB b).2 = 0
    · rw [decS_fine (by omega) h1 h2 h3 h4 h5] at h
      injection h with h6 h7
      injection h6 with h8 h9
      injection h9 with h10 h11
      subst h8 h10
      exact ⟨bor32 _ _, band8 _ _, fun _ => optB_fine hb h5⟩
    · exact z _ (decS_opt (by omega) h1 h2 h3 h4 h5) h5
  · exact z 6 (decS_sum (by omega) h1 h2 h3 h4) (by decide)
theorem stamp_two {os : List Opt} (h : ∀ o ∈ os, fineB o = true) (h8 : (findO os 8).2 = true) : 1 ≤ (findO os 8).1.2.1.length := by
  induction os with
  | nil => cases h8
  | cons o l ih =>
    rw [findO] at h8 ⊢
    by_cases hk : o.1 = 8
    · rw [if_pos hk]
      have hf := h o List.mem_cons_self
      unfold fineB at hf
      rw [hk, show szk 8 = 4 from rfl, show lk2 8 = 2 from rfl] at hf
      simp at hf
      show 1 ≤ o.2.1.length
      omega
    · rw [if_neg hk] at h8 ⊢
      exact ih (fun o ho => h o (List.mem_cons_of_mem _ ho)) h8
theorem has_all : ∀ x : Fin 256, (band .u8 ((x.val : Nat) : Int) 16 == 16) = decide (((x.val : Nat) : Int) / 16 % 2 = 1) := by decide +kernel
theorem has16 {x : Int} (h : 0 ≤ x ∧ x ≤ 255) : (band .u8 x 16 == 16) = decide (x / 16 % 2 = 1) := by
  obtain ⟨m, rfl⟩ := Int.eq_ofNat_of_zero_le h.1
  exact has_all ⟨m, by omega⟩
section
variable {f : Int} {g : Hd} {os : List Opt}
theorem okA_dst (h : g.s1 ≠ f % 65536) : okA f g os = false := by unfold okA; rw [decide_eq_false h]; rfl
theorem okA_flag (h : ¬ g.s6 / 16 % 2 = 1) : okA f g os = false := by unfold okA; rw [decide_eq_false h]; simp
theorem okA_none (h : (findO os 8).2 = false) : okA f g os = false := by unfold okA; rw [h]; simp
theorem okA_fine (h1 : g.s1 = f % 65536) (h2 : g.s6 / 16 % 2 = 1) (h3 : (findO os 8).2 = true) : okA f g os = true := by unfold okA; rw [decide_eq_true h1, decide_eq_true h2, h3]; rfl
end
end Go.Proofs.YtjgpdbkkpomhjaaX
