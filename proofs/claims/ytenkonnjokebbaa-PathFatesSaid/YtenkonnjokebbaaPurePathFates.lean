/- The pure statement of PathFates: any answer of any plan comes when the reference says, or is lost. -/
import Derived.Test.YtenkonnjokebbaaPPathFatesx1
import Derived.Lib.Mul64
import Derived.Laws.Bits64
namespace Go.Proofs.Ytenkonnjokebbaa.Pure
open Go.RowKit Go.Proofs.Ytenkonnjokebbaa.PPathFates Go.Proofs.YtenkonnjokebbaaW.PrintWords Go.Proofs.YtenkonnjokebbaaW.PrintLast Go.Proofs.YtenkonnjokebbaaW.PrintMore
open Go.Lib


/-- Both fates are one. -/
theorem PathFates.fate_ (l : List Int) (n : Int) : ∃ v b, path_Fate.f l n = some (v, b) ∧ leatref38_Fate.f l n = some (v, b) ∧ 0 ≤ v ∧ v ≤ 1099511627776 := by
  unfold path_Fate.f leatref38_Fate.f
  by_cases h : (l.length : Int) = 0
  · rw [if_pos h, if_pos h]; exact ⟨0, false, rfl, rfl, by omega, by omega⟩
  · rw [if_neg h, if_neg h]
    have key : ∀ m : Int, 0 ≤ m → m < (l.length : Int) → ∃ v b, (if 0 ≤ m then (if m < (l.length : Int) then (if (rd l m) < 0 then (some ((0 : Int), true)) else (some (mn (rd l m) 1099511627776, false))) else (none)) else (none)) = some (v, b) ∧ 0 ≤ v ∧ v ≤ 1099511627776 := by
      intro m h0 h1
      rw [if_pos h0, if_pos h1]
      generalize rd l m = x
      by_cases c : x < 0
      · rw [if_pos c]; exact ⟨0, true, rfl, by omega, by omega⟩
      · rw [if_neg c]; refine ⟨_, _, rfl, ?_, ?_⟩ <;> (unfold mn; split <;> omega)
    have hm0 := Int.emod_nonneg (mx n 0) h
    have hm1 := Int.emod_lt_of_pos (mx n 0) (show 0 < (l.length : Int) by omega)
    obtain ⟨v, b, e, hv⟩ := key _ hm0 hm1
    refine ⟨v, b, e, ?_, hv⟩
    by_cases c : n < 0
    · have : mx n 0 = 0 := by unfold mx; (repeat' split) <;> omega
      rw [this] at e
      rw [if_pos c]; exact e
    · have : mx n 0 = n := by unfold mx; (repeat' split) <;> omega
      rw [this] at e
      rw [if_neg c, Int.tmod_eq_emod_of_nonneg (by omega)]; exact e

theorem PathFates.w64 {x : Int} (h0 : -9223372036854775808 ≤ x) (h1 : x ≤ 9223372036854775807) : wrap64 x = x := by
  unfold wrap64; omega
theorem PathFates.mxmn (lo x hi : Int) (h : lo ≤ hi) : mx lo (mn x hi) = mn (mx x lo) hi := by unfold mx mn; (repeat' split) <;> omega

theorem PathFates.arr_ (a b : Int) (l : List Int) (n : Int) : ∃ v c, path_Arrive.f a b l n = some (v, c) ∧ leatref38_Arrive.f a b l n = some (v, c) := by
  unfold path_Arrive.f leatref38_Arrive.f path_Arrive_1.f sat_Clamp.f
  obtain ⟨v, c, e1, e2, h0, h1⟩ := PathFates.fate_ l n
  rw [e1, e2, PathFates.mxmn 0 a _ (by omega), PathFates.mxmn 0 b _ (by omega)]
  simp only [Option.bind_some]
  by_cases hc : c = true
  · rw [if_pos hc, if_pos hc]; exact ⟨0, true, rfl, rfl⟩
  · rw [if_neg hc, if_neg hc]
    have ha : 0 ≤ mn (mx a 0) 1125899906842624 ∧ mn (mx a 0) 1125899906842624 ≤ 1125899906842624 := by unfold mx mn; (repeat' split) <;> omega
    have hb : 0 ≤ mn (mx b 0) 1125899906842624 ∧ mn (mx b 0) 1125899906842624 ≤ 1125899906842624 := by unfold mx mn; (repeat' split) <;> omega
    rw [PathFates.w64 (x := mn (mx a 0) 1125899906842624 + mn (mx b 0) 1125899906842624) (by omega) (by omega)]
    exact ⟨_, _, rfl, rfl⟩

theorem PathFates : leatlaw38_PathFates.Pure := by
  intro l n a b w0 w1 w2 w3 w4 w5
  unfold leatlaw38_PathFates.f
  have hw : leatlaw38_works.f = some true := by kernel_rfl
  have h1 : 0 ≤ mn (l.length : Int) 60 := by unfold mn; split <;> omega
  have h2 : mn (l.length : Int) 60 ≤ (l.length : Int) := by unfold mn; split <;> omega
  rw [if_pos h1, if_pos h2]
  simp only [Option.bind_some]
  generalize l.take (mn (l.length : Int) 60).toNat = m
  obtain ⟨v, c, e1, e2, _, _⟩ := PathFates.fate_ m n
  obtain ⟨u, d, e3, e4⟩ := PathFates.arr_ a b m n
  rw [e1, e2, e3, e4, hw]
  simp

end Go.Proofs.Ytenkonnjokebbaa.Pure
