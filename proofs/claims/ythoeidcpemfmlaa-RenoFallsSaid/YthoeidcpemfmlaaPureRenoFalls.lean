/- The pure statement of RenoFalls: any window, cut by any share, collapsed, or begun, is the reference's. -/
import Derived.Test.YthoeidcpemfmlaaPRenoFallsx7
import Derived.Lib.Mul64
import Derived.Laws.Bits64
namespace Go.Proofs.Ythoeidcpemfmlaa.Pure
open Go.RowKit Go.Proofs.Ythoeidcpemfmlaa.PRenoFalls Go.Proofs.YthoeidcpemfmlaaW.PrintWords Go.Proofs.YthoeidcpemfmlaaW.PrintLast Go.Proofs.YthoeidcpemfmlaaW.PrintMore Go.Proofs.Ythoeidcpemfmlaa.Inj
open Go.Lib

theorem RenoFalls.w64 {x : Int} (h0 : -9223372036854775808 ≤ x) (h1 : x ≤ 9223372036854775807) : wrap64 x = x := by
  unfold wrap64; omega
/-- What is known of a quotient and a rest. -/
theorem RenoFalls.parts (a b : Int) (hb : b ≠ 0) : a = a.tdiv b * b + a.tmod b ∧ (0 ≤ a → 0 ≤ a.tmod b) ∧ (a ≤ 0 → a.tmod b ≤ 0) ∧ (a.tmod b).natAbs < b.natAbs ∧ (a.tdiv b).natAbs ≤ a.natAbs := by
  refine ⟨by have := Int.mul_tdiv_add_tmod a b; rw [Int.mul_comm]; omega, fun h => Int.tmod_nonneg b h, fun h => ?_, ?_, ?_⟩
  · have h2 := Int.tmod_nonneg b (show 0 ≤ -a by omega)
    rw [Int.neg_tmod] at h2; omega
  · rw [Int.natAbs_tmod]; exact Nat.mod_lt _ (by omega)
  · rw [Int.natAbs_tdiv]; exact Nat.div_le_self _ _

/-- Quotient and rest of a divisor above 0. -/
theorem RenoFalls.div_ (a b : Int) (k : Nat) (ha : -9223372036854775808 ≤ a ∧ a ≤ 9223372036854775807) (hb : 0 < b ∧ b ≤ 9223372036854775807) :
    ∃ q r, sat_Div.f (k + 1) a b = some q ∧ sat_Mod.f a b = some r ∧ 0 ≤ r ∧ r < b ∧ q * b + r = a := by
  obtain ⟨e, p1, p2, p3, p4⟩ := RenoFalls.parts a b (by omega)
  unfold sat_Div.f sat_Mod.f
  have l : (if a = -9223372036854775808 then sat_Div.j0 (k + 1) a b (b == -1) else sat_Div.j0 (k + 1) a b false) = sat_Div.j0 (k + 1) a b false := by
    rw [show (b == -1) = false by simp; omega]; split <;> rfl
  rw [if_neg (by omega), l]
  simp only [sat_Div.j0]
  rw [if_neg (by decide), if_neg (by omega), if_neg (show ¬ b ≤ 0 by omega), if_neg (show ¬ b = 0 by omega)]
  have hs : a < 0 → a.tdiv b ≤ 0 := fun h => by
    have h2 := Int.tdiv_nonneg (show 0 ≤ -a by omega) (show 0 ≤ b by omega)
    rw [Int.neg_tdiv] at h2; omega
  have w1 : wrap64 (a.tdiv b) = a.tdiv b := RenoFalls.w64 (by omega) (by omega)
  have hd : decide (b < 0) = false := by simp; omega
  rw [w1, hd]
  by_cases h2 : a.tmod b = 0
  · rw [if_pos h2, if_neg (show ¬ a.tmod b < 0 by omega)]
    exact ⟨_, _, rfl, rfl, by omega, by omega, by omega⟩
  · rw [if_neg h2]
    by_cases h3 : a < 0
    · rw [if_pos (by simpa using h3), if_pos (by omega)]
      have hlow : -9223372036854775808 < a.tdiv b := by
        have h4 : (a.tdiv b).natAbs * b.natAbs ≤ a.natAbs := by
          rw [Int.natAbs_tdiv]; exact Nat.div_mul_le_self _ _
        by_cases h5 : b = 1
        · subst h5; have := Int.tmod_one a; omega
        · have h6 := Nat.mul_le_mul_left (a.tdiv b).natAbs (show 2 ≤ b.natAbs by omega)
          omega
      refine ⟨_, _, rfl, rfl, ?_, ?_, ?_⟩
      · rw [RenoFalls.w64 (by omega) (by omega)]; omega
      · rw [RenoFalls.w64 (by omega) (by omega)]; omega
      · rw [RenoFalls.w64 (by omega) (by omega), RenoFalls.w64 (by omega) (by omega), Int.sub_mul]; omega
    · rw [if_neg (by simpa using h3), if_neg (by omega)]
      exact ⟨_, _, rfl, rfl, by omega, by omega, by omega⟩


/-- A quotient, downwards. -/
theorem RenoFalls.divp_ (a b : Int) (k : Nat) (ha : -9223372036854775808 ≤ a ∧ a ≤ 9223372036854775807) (hb : 0 < b ∧ b ≤ 9223372036854775807) : sat_Div.f (k + 1) a b = some (a / b) := by
  obtain ⟨q, r, e1, _, h0, h1, h2⟩ := RenoFalls.div_ a b k ha hb
  have : a / b = q := by
    rw [← h2, Int.mul_comm q b, Int.add_comm, Int.add_mul_ediv_left _ _ (by omega), Int.ediv_eq_zero_of_lt h0 h1, Int.zero_add]
  rw [e1, this]

theorem RenoFalls.clampm_ (x lo hi : Int) : sat_Clamp.f x lo hi = some (mx lo (mn x hi)) := rfl


theorem RenoFalls.mxmn (lo x hi : Int) (h : lo ≤ hi) : mx lo (mn x hi) = mn (mx x lo) hi := by unfold mx mn; (repeat' split) <;> omega

/-- A share of a number, as the program tells it. -/
theorem RenoFalls.part_ (x f : Int) (k : Nat) (hx : 0 ≤ x ∧ x ≤ 4398046511103) : fixed_Part.f (k + 1) x f = some (x * mn (mx f 0) 1048576 / 1048576) := by
  unfold fixed_Part.f fixed_share.f
  have hs : 0 ≤ mn (mx f 0) 1048576 ∧ mn (mx f 0) 1048576 ≤ 1048576 := by unfold mx mn; (repeat' split) <;> omega
  rw [RenoFalls.clampm_, RenoFalls.mxmn 0 f _ (by omega)]
  simp only [Option.bind_some]
  rw [RenoFalls.divp_ x 1048576 k (by omega) (by omega)]
  have hm : sat_Mod.f x 1048576 = some (x % 1048576) := by
    unfold sat_Mod.f
    rw [if_neg (by omega), if_neg (by omega), Int.tmod_eq_emod_of_nonneg hx.1, if_neg (by omega)]
  rw [hm]
  simp only [Option.bind_some]
  generalize mn (mx f 0) 1048576 = s at *
  have e : x * s = x % 1048576 * s + 1048576 * (x / 1048576 * s) := by
    have h := Int.mul_ediv_add_emod x 1048576
    have h2 : x * s = (1048576 * (x / 1048576) + x % 1048576) * s := by rw [h]
    rw [h2, Int.add_mul, Int.mul_assoc]; omega
  have ha : 0 ≤ x / 1048576 * s ∧ x / 1048576 * s ≤ 4398046511104 := ⟨Int.mul_nonneg (by omega) hs.1, by have := Int.mul_le_mul (show x / 1048576 ≤ 4194304 by omega) hs.2 hs.1 (by omega); omega⟩
  have hb : 0 ≤ x % 1048576 * s ∧ x % 1048576 * s ≤ 1099511627776 := ⟨Int.mul_nonneg (by omega) hs.1, by have := Int.mul_le_mul (show x % 1048576 ≤ 1048576 by omega) hs.2 hs.1 (by omega); omega⟩
  rw [e, Int.add_mul_ediv_left _ _ (by omega), RenoFalls.w64 (x := x % 1048576 * s) (by omega) (by omega), Int.tdiv_eq_ediv_of_nonneg hb.1, RenoFalls.w64 (x := x % 1048576 * s / 1048576) (by omega) (by omega), RenoFalls.w64 (x := x / 1048576 * s) (by omega) (by omega), RenoFalls.w64 (by omega) (by omega)]
  congr 1; omega

theorem RenoFalls.rpart_ (x f : Int) (k : Nat) (hx : 0 ≤ x ∧ x ≤ 4398046511103) : leatref04_Part.f k x f = some (x * mn (mx f 0) 1048576 / 1048576) := by
  unfold leatref04_Part.f leatref04_Share.f leatref04_quo.f
  have hs : 0 ≤ mn (mx f 0) 1048576 ∧ mn (mx f 0) 1048576 ≤ 1048576 := by unfold mx mn; (repeat' split) <;> omega
  simp only [Option.bind_some]
  generalize mn (mx f 0) 1048576 = s at *
  have hp : 0 ≤ x * s ∧ x * s ≤ 4611686018427387904 := ⟨Int.mul_nonneg hx.1 hs.1, by have := Int.mul_le_mul hx.2 hs.2 hs.1 (by omega); omega⟩
  rw [if_pos (by omega), if_pos (by omega), if_pos hs.2, if_neg (by omega), RenoFalls.w64 (x := x * s) (by omega) (by omega), Int.tdiv_eq_ediv_of_nonneg hp.1, RenoFalls.w64 (by omega) (by omega)]
  rfl

theorem RenoFalls.within_ (c t y m : Int) : ∃ c' t' y' s : Int, reno_Within.f c t y m = some (c', t', y') ∧ leatref24_Within.f c t y m = some (c', t', y') ∧ reno_size.f m = some s ∧ leatref24_Size.f m = some s ∧ 1 ≤ s ∧ s ≤ 65536 ∧ s ≤ c' ∧ c' ≤ 1073741824 ∧ 0 ≤ t' ∧ t' ≤ 1073741824 ∧ 0 ≤ y' ∧ y' ≤ 1125899906842623 := by
  have hs : 1 ≤ mn (mx m 1) 65536 ∧ mn (mx m 1) 65536 ≤ 65536 := by unfold mx mn; (repeat' split) <;> omega
  refine ⟨mn (mx c (mn (mx m 1) 65536)) 1073741824, mn (mx t 0) 1073741824, mn (mx y 0) 1125899906842623, mn (mx m 1) 65536, ?_, rfl, ?_, rfl, hs.1, hs.2, ?_⟩
  · unfold reno_Within.f
    rw [RenoFalls.mxmn 1 m _ (by omega), RenoFalls.mxmn _ c _ (by omega), RenoFalls.mxmn 0 t _ (by omega), RenoFalls.mxmn 0 y _ (by omega)]
  · unfold reno_size.f; rw [RenoFalls.clampm_, RenoFalls.mxmn 1 m _ (by omega)]; rfl
  · generalize mn (mx m 1) 65536 = s at *
    unfold mx mn; (repeat' split) <;> omega

theorem RenoFalls.parts_ (x f : Int) (hx : 0 ≤ x) : 0 ≤ x * mn (mx f 0) 1048576 / 1048576 ∧ x * mn (mx f 0) 1048576 / 1048576 ≤ x := by
  have hs : 0 ≤ mn (mx f 0) 1048576 ∧ mn (mx f 0) 1048576 ≤ 1048576 := by unfold mx mn; (repeat' split) <;> omega
  generalize mn (mx f 0) 1048576 = s at *
  have h1 : 0 ≤ x * s := Int.mul_nonneg hx hs.1
  have h2 : x * s ≤ x * 1048576 := Int.mul_le_mul_of_nonneg_left hs.2 hx
  omega


theorem RenoFalls : leatlaw24_RenoFalls.Pure := by
  intro c t y f m w0 w1 w2 w3 w4
  refine ⟨5, ?_⟩
  have hw : leatlaw24_works.f (4 + 1) = some true := by kernel_rfl
  unfold leatlaw24_RenoFalls.f reno_Cut.f leatref24_Cut.f reno_Collapse.f leatref24_Collapse.f reno_Start.f leatref24_Start.f
  obtain ⟨c', t', y', s, e1, e2, e3, e4, s1, s2, a1, a2, b1, b2, d1, d2⟩ := RenoFalls.within_ c t y m
  have hp := RenoFalls.parts_ c' f (by omega)
  rw [e1, e2, e3, e4, hw]
  simp only [Option.bind_some]
  rw [RenoFalls.part_ c' f 4 (by omega), RenoFalls.rpart_ c' f 5 (by omega), RenoFalls.clampm_, RenoFalls.mxmn 1 f _ (by omega)]
  simp only [Option.bind_some]
  generalize c' * mn (mx f 0) 1048576 / 1048576 = p at *
  rw [RenoFalls.w64 (x := c' - p) (by omega) (by omega), RenoFalls.w64 (x := 2 * s) (by omega) (by omega)]
  by_cases g : c' - p < 2 * s
  · have e : mx (c' - p) (mn (2 * s) c') = mn (2 * s) c' := by unfold mx mn; (repeat' split) <;> omega
    rw [if_pos g, e]
    simp
  · have e : mx (c' - p) (mn (2 * s) c') = c' - p := by unfold mx mn; (repeat' split) <;> omega
    rw [if_neg g, e]
    simp

end Go.Proofs.Ythoeidcpemfmlaa.Pure
