/- The pure statement of SatDivs: the program's quotient and rest are the reference's, at all numbers of 64 bits. -/
import Derived.Test.YtdfbnbhhjhfdaaaPSatDivsx1
namespace Go.Proofs.Ytdfbnbhhjhfdaaa.Pure
open Go.RowKit Go.Proofs.Ytdfbnbhhjhfdaaa.PSatDivs Go.Proofs.YtdfbnbhhjhfdaaaW.PrintWords Go.Proofs.YtdfbnbhhjhfdaaaW.PrintLast

theorem SatDivs.range {a : Int} (h : (Lit.int .i64 a).wf = true) : -9223372036854775808 ≤ a ∧ a ≤ 9223372036854775807 := by
  simp only [Lit.wf, IntKind.min, IntKind.max, IntKind.signed, IntKind.bits, Bool.and_eq_true, decide_eq_true_eq, if_true] at h
  omega

theorem SatDivs.w64 {x : Int} (h0 : -9223372036854775808 ≤ x) (h1 : x ≤ 9223372036854775807) : wrap64 x = x := by
  unfold wrap64; omega

/-- What is known of a quotient and a rest. -/
theorem SatDivs.parts (a b : Int) (hb : b ≠ 0) : a = a.tdiv b * b + a.tmod b ∧ (0 ≤ a → 0 ≤ a.tmod b) ∧ (a ≤ 0 → a.tmod b ≤ 0) ∧ (a.tmod b).natAbs < b.natAbs ∧ (a.tdiv b).natAbs ≤ a.natAbs := by
  refine ⟨by have := Int.mul_tdiv_add_tmod a b; rw [Int.mul_comm]; omega, fun h => Int.tmod_nonneg b h, fun h => ?_, ?_, ?_⟩
  · have h2 := Int.tmod_nonneg b (show 0 ≤ -a by omega)
    rw [Int.neg_tmod] at h2; omega
  · rw [Int.natAbs_tmod]; exact Nat.mod_lt _ (by omega)
  · rw [Int.natAbs_tdiv]; exact Nat.div_le_self _ _

/-- The two quotients are one. -/
theorem SatDivs.div_ (a b : Int) (ha : -9223372036854775808 ≤ a ∧ a ≤ 9223372036854775807) (hb : -9223372036854775808 ≤ b ∧ b ≤ 9223372036854775807) (k : Nat) :
    ∃ q, sat_Div.f (k + 1) a b = some q ∧ leatref01_Div.f a b = some q ∧ (0 < b → q * b = a - (if a.tmod b < 0 then a.tmod b + b else a.tmod b)) := by
  unfold sat_Div.f leatref01_Div.f leatref01_Neg.f
  by_cases h0 : b = 0
  · rw [if_pos h0, if_pos h0]; exact ⟨0, rfl, rfl, fun h => by omega⟩
  rw [if_neg h0, if_neg h0]
  obtain ⟨e, p1, p2, p3, p4⟩ := SatDivs.parts a b h0
  by_cases h1 : b = -1
  · subst h1
    rw [if_pos rfl]
    by_cases h2 : a = -9223372036854775808
    · subst h2; exact ⟨9223372036854775807, rfl, rfl, fun h => by omega⟩
    · rw [if_neg h2, if_neg h2]
      refine ⟨-a, ?_, ?_, fun h => by omega⟩
      · simp only [sat_Div.j0]
        have e1 : a.tdiv (-1) = -a := by rw [Int.tdiv_neg, Int.tdiv_one]
        have e2 : a.tmod (-1) = 0 := by rw [Int.tmod_neg, Int.tmod_one]
        rw [if_neg (by decide), if_neg (by decide), if_pos e2, e1, SatDivs.w64 (by omega) (by omega)]
      · simp only [Option.bind_some]; rw [SatDivs.w64 (by omega) (by omega)]
  rw [if_neg h1]
  have hb1 : (b == -1) = false := by simpa using h1
  have hq : -9223372036854775808 ≤ a.tdiv b ∧ a.tdiv b ≤ 9223372036854775807 ∧ (a.tmod b ≠ 0 → -9223372036854775808 < a.tdiv b) := by
    by_cases h2 : b = 1
    · subst h2
      have := Int.tdiv_one a
      have := Int.tmod_one a
      omega
    · have h3 : 2 * (a.tdiv b).natAbs ≤ a.natAbs := by
        rw [Int.natAbs_tdiv]
        have h4 : 2 ≤ b.natAbs := by omega
        have h5 := Nat.div_mul_le_self a.natAbs b.natAbs
        have h6 := Nat.mul_le_mul_left (a.natAbs / b.natAbs) h4
        show 2 * (a.natAbs / b.natAbs) ≤ a.natAbs
        omega
      omega
  have w1 : wrap64 (a.tdiv b) = a.tdiv b := SatDivs.w64 (by omega) (by omega)
  have w2 : wrap64 (a.tdiv b * b) = a - a.tmod b := by
    rw [show a.tdiv b * b = a - a.tmod b by omega]; exact SatDivs.w64 (by omega) (by omega)
  have w3 : wrap64 (a - (a - a.tmod b)) = a.tmod b := by
    rw [show a - (a - a.tmod b) = a.tmod b by omega]; exact SatDivs.w64 (by omega) (by omega)
  have l : (if a = -9223372036854775808 then sat_Div.j0 (k + 1) a b (b == -1) else sat_Div.j0 (k + 1) a b false) = sat_Div.j0 (k + 1) a b false := by
    rw [hb1]; split <;> rfl
  rw [l]
  simp only [sat_Div.j0]
  rw [if_neg (by decide), if_neg h0, w1, w2, w3]
  by_cases h2 : a.tmod b = 0
  · rw [if_pos h2, if_pos h2]
    exact ⟨_, rfl, rfl, fun h => by rw [if_neg (by omega)]; omega⟩
  · rw [if_neg h2, if_neg h2]
    have hs : decide (a.tmod b < 0) = decide (a < 0) := by
      apply decide_eq_decide.mpr
      omega
    rw [hs]
    by_cases h3 : (decide (a < 0) != decide (b < 0)) = true
    · rw [if_pos h3]
      refine ⟨_, rfl, rfl, fun h => ?_⟩
      have h4 : a < 0 := by
        have h5 : decide (b < 0) = false := by simp; omega
        rw [h5] at h3; simpa using h3
      rw [if_pos (by omega), SatDivs.w64 (by omega) (by omega), Int.sub_mul]
      omega
    · rw [if_neg h3]
      refine ⟨_, rfl, rfl, fun h => ?_⟩
      have h4 : ¬ a < 0 := by
        have h5 : decide (b < 0) = false := by simp; omega
        rw [h5] at h3; simpa using h3
      rw [if_neg (by omega)]
      omega

theorem SatDivs : leatlaw01_SatDivs.Pure := by
  intro a b w0 w1
  have ha := SatDivs.range w0
  have hb := SatDivs.range w1
  obtain ⟨q, e1, e2, e3⟩ := SatDivs.div_ a b ha hb 0
  have hw : leatlaw01_works.f 1 = some true := by kernel_rfl
  refine ⟨1, ?_⟩
  unfold leatlaw01_SatDivs.f
  rw [e1, e2, hw]
  simp only [Option.bind_some, if_true]
  unfold sat_Mod.f leatref01_Mod.f
  by_cases h0 : b ≤ 0
  · rw [if_pos h0, if_pos h0]; rfl
  · rw [if_neg h0, if_neg h0, if_neg (by omega), e2]
    obtain ⟨e, p1, p2, p3, p4⟩ := SatDivs.parts a b (by omega)
    have e4 := e3 (by omega)
    simp only [Option.bind_some]
    have hs : ∀ x y : Int, wrap64 (x - wrap64 y) = wrap64 (x - y) := fun x y => by unfold wrap64; omega
    rw [e4, hs]
    by_cases h1 : a.tmod b < 0
    · simp only [if_pos h1, Option.bind_some]
      rw [show a - (a - (a.tmod b + b)) = a.tmod b + b by omega, if_pos rfl]
    · simp only [if_neg h1, Option.bind_some]
      rw [show a - (a - (a.tmod b)) = a.tmod b by omega, SatDivs.w64 (by omega) (by omega), if_pos rfl]

end Go.Proofs.Ytdfbnbhhjhfdaaa.Pure
