/- The pure statement of RenoSteps: growing never lets a window fall, cutting never lets it rise. -/
import Derived.Test.YthoeidcpemfmlaaPRenoStepsx3
import Derived.Lib.Mul64
import Derived.Laws.Bits64
namespace Go.Proofs.Ythoeidcpemfmlaa.Pure
open Go.RowKit Go.Proofs.Ythoeidcpemfmlaa.PRenoSteps Go.Proofs.YthoeidcpemfmlaaW.PrintWords Go.Proofs.YthoeidcpemfmlaaW.PrintLast Go.Proofs.YthoeidcpemfmlaaW.PrintMore Go.Proofs.Ythoeidcpemfmlaa.Inj
open Go.Lib

theorem RenoSteps.w64 {x : Int} (h0 : -9223372036854775808 ≤ x) (h1 : x ≤ 9223372036854775807) : wrap64 x = x := by
  unfold wrap64; omega
/-- What is known of a quotient and a rest. -/
theorem RenoSteps.parts (a b : Int) (hb : b ≠ 0) : a = a.tdiv b * b + a.tmod b ∧ (0 ≤ a → 0 ≤ a.tmod b) ∧ (a ≤ 0 → a.tmod b ≤ 0) ∧ (a.tmod b).natAbs < b.natAbs ∧ (a.tdiv b).natAbs ≤ a.natAbs := by
  refine ⟨by have := Int.mul_tdiv_add_tmod a b; rw [Int.mul_comm]; omega, fun h => Int.tmod_nonneg b h, fun h => ?_, ?_, ?_⟩
  · have h2 := Int.tmod_nonneg b (show 0 ≤ -a by omega)
    rw [Int.neg_tmod] at h2; omega
  · rw [Int.natAbs_tmod]; exact Nat.mod_lt _ (by omega)
  · rw [Int.natAbs_tdiv]; exact Nat.div_le_self _ _

/-- Quotient and rest of a divisor above 0. -/
theorem RenoSteps.div_ (a b : Int) (k : Nat) (ha : -9223372036854775808 ≤ a ∧ a ≤ 9223372036854775807) (hb : 0 < b ∧ b ≤ 9223372036854775807) :
    ∃ q r, sat_Div.f (k + 1) a b = some q ∧ sat_Mod.f a b = some r ∧ 0 ≤ r ∧ r < b ∧ q * b + r = a := by
  obtain ⟨e, p1, p2, p3, p4⟩ := RenoSteps.parts a b (by omega)
  unfold sat_Div.f sat_Mod.f
  have l : (if a = -9223372036854775808 then sat_Div.j0 (k + 1) a b (b == -1) else sat_Div.j0 (k + 1) a b false) = sat_Div.j0 (k + 1) a b false := by
    rw [show (b == -1) = false by simp; omega]; split <;> rfl
  rw [if_neg (by omega), l]
  simp only [sat_Div.j0]
  rw [if_neg (by decide), if_neg (by omega), if_neg (show ¬ b ≤ 0 by omega), if_neg (show ¬ b = 0 by omega)]
  have hs : a < 0 → a.tdiv b ≤ 0 := fun h => by
    have h2 := Int.tdiv_nonneg (show 0 ≤ -a by omega) (show 0 ≤ b by omega)
    rw [Int.neg_tdiv] at h2; omega
  have w1 : wrap64 (a.tdiv b) = a.tdiv b := RenoSteps.w64 (by omega) (by omega)
  have hd : decide (b < 0) = false := by simp; omega
  rw [w1, hd]
  by_cases h2 : a.tmod b = 0
  · rw [if_pos h2, if_neg (show ¬ a.tmod b < 0 by omega)]
    exact ⟨_, _, rfl, rfl, by omega, by omega, by omega⟩
  · rw [if_neg h2]
    by_cases h3 : a < 0
    · rw [if_pos (by simpa using h3), if_pos (by omega)]
      have hlow : -9223372036854775808 < a.tdiv b := by
        have h4 : (a.tdiv b).natAbs * b.natAbs ≤ a.natAbs := by
          rw [Int.natAbs_tdiv]; exact Nat.div_mul_le_self _ _
        by_cases h5 : b = 1
        · subst h5; have := Int.tmod_one a; omega
        · have h6 := Nat.mul_le_mul_left (a.tdiv b).natAbs (show 2 ≤ b.natAbs by omega)
          omega
      refine ⟨_, _, rfl, rfl, ?_, ?_, ?_⟩
      · rw [RenoSteps.w64 (by omega) (by omega)]; omega
      · rw [RenoSteps.w64 (by omega) (by omega)]; omega
      · rw [RenoSteps.w64 (by omega) (by omega), RenoSteps.w64 (by omega) (by omega), Int.sub_mul]; omega
    · rw [if_neg (by simpa using h3), if_neg (by omega)]
      exact ⟨_, _, rfl, rfl, by omega, by omega, by omega⟩


/-- A quotient, downwards. -/
theorem RenoSteps.divp_ (a b : Int) (k : Nat) (ha : -9223372036854775808 ≤ a ∧ a ≤ 9223372036854775807) (hb : 0 < b ∧ b ≤ 9223372036854775807) : sat_Div.f (k + 1) a b = some (a / b) := by
  obtain ⟨q, r, e1, _, h0, h1, h2⟩ := RenoSteps.div_ a b k ha hb
  have : a / b = q := by
    rw [← h2, Int.mul_comm q b, Int.add_comm, Int.add_mul_ediv_left _ _ (by omega), Int.ediv_eq_zero_of_lt h0 h1, Int.zero_add]
  rw [e1, this]

theorem RenoSteps.clampm_ (x lo hi : Int) : sat_Clamp.f x lo hi = some (mx lo (mn x hi)) := rfl


theorem RenoSteps.mxmn (lo x hi : Int) (h : lo ≤ hi) : mx lo (mn x hi) = mn (mx x lo) hi := by unfold mx mn; (repeat' split) <;> omega

/-- A share of a number, as the program tells it. -/
theorem RenoSteps.part_ (x f : Int) (k : Nat) (hx : 0 ≤ x ∧ x ≤ 4398046511103) : fixed_Part.f (k + 1) x f = some (x * mn (mx f 0) 1048576 / 1048576) := by
  unfold fixed_Part.f fixed_share.f
  have hs : 0 ≤ mn (mx f 0) 1048576 ∧ mn (mx f 0) 1048576 ≤ 1048576 := by unfold mx mn; (repeat' split) <;> omega
  rw [RenoSteps.clampm_, RenoSteps.mxmn 0 f _ (by omega)]
  simp only [Option.bind_some]
  rw [RenoSteps.divp_ x 1048576 k (by omega) (by omega)]
  have hm : sat_Mod.f x 1048576 = some (x % 1048576) := by
    unfold sat_Mod.f
    rw [if_neg (by omega), if_neg (by omega), Int.tmod_eq_emod_of_nonneg hx.1, if_neg (by omega)]
  rw [hm]
  simp only [Option.bind_some]
  generalize mn (mx f 0) 1048576 = s at *
  have e : x * s = x % 1048576 * s + 1048576 * (x / 1048576 * s) := by
    have h := Int.mul_ediv_add_emod x 1048576
    have h2 : x * s = (1048576 * (x / 1048576) + x % 1048576) * s := by rw [h]
    rw [h2, Int.add_mul, Int.mul_assoc]; omega
  have ha : 0 ≤ x / 1048576 * s ∧ x / 1048576 * s ≤ 4398046511104 := ⟨Int.mul_nonneg (by omega) hs.1, by have := Int.mul_le_mul (show x / 1048576 ≤ 4194304 by omega) hs.2 hs.1 (by omega); omega⟩
  have hb : 0 ≤ x % 1048576 * s ∧ x % 1048576 * s ≤ 1099511627776 := ⟨Int.mul_nonneg (by omega) hs.1, by have := Int.mul_le_mul (show x % 1048576 ≤ 1048576 by omega) hs.2 hs.1 (by omega); omega⟩
  rw [e, Int.add_mul_ediv_left _ _ (by omega), RenoSteps.w64 (x := x % 1048576 * s) (by omega) (by omega), Int.tdiv_eq_ediv_of_nonneg hb.1, RenoSteps.w64 (x := x % 1048576 * s / 1048576) (by omega) (by omega), RenoSteps.w64 (x := x / 1048576 * s) (by omega) (by omega), RenoSteps.w64 (by omega) (by omega)]
  congr 1; omega

theorem RenoSteps.parts_ (x f : Int) (hx : 0 ≤ x) : 0 ≤ x * mn (mx f 0) 1048576 / 1048576 ∧ x * mn (mx f 0) 1048576 / 1048576 ≤ x := by
  have hs : 0 ≤ mn (mx f 0) 1048576 ∧ mn (mx f 0) 1048576 ≤ 1048576 := by unfold mx mn; (repeat' split) <;> omega
  generalize mn (mx f 0) 1048576 = s at *
  have h1 : 0 ≤ x * s := Int.mul_nonneg hx hs.1
  have h2 : x * s ≤ x * 1048576 := Int.mul_le_mul_of_nonneg_left hs.2 hx
  omega

/-- A size kept within its ends. -/
def RenoSteps.S (m : Int) : Int := mn (mx m 1) 65536
theorem RenoSteps.S_ok (m : Int) : 1 ≤ RenoSteps.S m ∧ RenoSteps.S m ≤ 65536 := by unfold RenoSteps.S mx mn; (repeat' split) <;> omega
theorem RenoSteps.S_S (m : Int) : RenoSteps.S (RenoSteps.S m) = RenoSteps.S m := by
  have h := RenoSteps.S_ok m
  generalize RenoSteps.S m = s at *
  unfold RenoSteps.S mx mn; (repeat' split) <;> omega
theorem RenoSteps.win (c t y m : Int) : reno_Within.f c t y m = some (mn (mx c (RenoSteps.S m)) 1073741824, mn (mx t 0) 1073741824, mn (mx y 0) 1125899906842623) := by
  have hs := RenoSteps.S_ok m
  unfold reno_Within.f
  rw [RenoSteps.mxmn 1 m _ (by omega)]
  unfold RenoSteps.S at *
  rw [RenoSteps.mxmn _ c _ (by omega), RenoSteps.mxmn 0 t _ (by omega), RenoSteps.mxmn 0 y _ (by omega)]
theorem RenoSteps.rwin (c t y m : Int) : leatref24_Within.f c t y m = some (mn (mx c (RenoSteps.S m)) 1073741824, mn (mx t 0) 1073741824, mn (mx y 0) 1125899906842623) := rfl
theorem RenoSteps.size_s (m : Int) : reno_size.f m = some (RenoSteps.S m) := by
  unfold reno_size.f RenoSteps.S; rw [RenoSteps.clampm_, RenoSteps.mxmn 1 m _ (by omega)]; rfl
theorem RenoSteps.rsize_s (m : Int) : leatref24_Size.f m = some (RenoSteps.S m) := rfl

/-- The growth behind a window's fast part. -/
def RenoSteps.step (C t y p m : Int) : Int × Int × Int := (mn (mx (C + (y + p) / C) (RenoSteps.S m)) 1073741824, mn (mx t 0) 1073741824, mn (mx ((y + p) % C) 0) 1125899906842623)


theorem RenoSteps.tail_ (C t y p m : Int) (hC : 1 ≤ C ∧ C ≤ 1073741824) (hp : 0 ≤ p ∧ p ≤ 1099511627776) (hy : 0 ≤ y ∧ y ≤ 1125899906842623) :
    (if C = 0 then (none) else ((reno_Within.f (wrap64 (C + (wrap64 (Int.tdiv (wrap64 (y + p)) C)))) t (wrap64 ((wrap64 (y + p)) - (wrap64 ((wrap64 (Int.tdiv (wrap64 (y + p)) C)) * C)))) (RenoSteps.S m)).bind fun bt120 => (some (bt120.1, bt120.2.1, bt120.2.2)))) = some (RenoSteps.step C t y p m) := by
  rw [if_neg (by omega), RenoSteps.w64 (x := y + p) (by omega) (by omega)]
  have hd : Int.tdiv (y + p) C = (y + p) / C := Int.tdiv_eq_ediv_of_nonneg (by omega)
  have hq0 : 0 ≤ (y + p) / C := Int.ediv_nonneg (by omega) (by omega)
  have hq1 : (y + p) / C ≤ y + p := Int.ediv_le_self _ (by omega)
  have hr0 := Int.emod_nonneg (y + p) (show C ≠ 0 by omega)
  have hr1 := Int.emod_lt_of_pos (y + p) (show 0 < C by omega)
  have hdm : (y + p) / C * C = (y + p) - (y + p) % C := by
    have := Int.mul_ediv_add_emod (y + p) C
    rw [Int.mul_comm] at this; omega
  rw [hd, RenoSteps.w64 (x := (y + p) / C) (by omega) (by omega), RenoSteps.w64 (x := C + (y + p) / C) (by omega) (by omega), hdm, RenoSteps.w64 (x := y + p - (y + p) % C) (by omega) (by omega), RenoSteps.w64 (x := y + p - (y + p - (y + p) % C)) (by omega) (by omega)]
  rw [RenoSteps.win, RenoSteps.S_S]
  have e : y + p - (y + p - (y + p) % C) = (y + p) % C := by omega
  rw [e]
  rfl
theorem RenoSteps.step_ge (C t y p m : Int) (hC : 1 ≤ C ∧ C ≤ 1073741824) (hp : 0 ≤ p) (hy : 0 ≤ y) : C ≤ (RenoSteps.step C t y p m).1 := by
  have hq0 : 0 ≤ (y + p) / C := Int.ediv_nonneg (by omega) (by omega)
  unfold RenoSteps.step
  dsimp only
  generalize (y + p) / C = q at *
  unfold mx mn; (repeat' split) <;> omega

def RenoSteps.P (A m f : Int) : Int := A * RenoSteps.S m * mn (mx f 0) 1048576 / 1048576
theorem RenoSteps.P_ok (A m f : Int) (hA : 0 ≤ A ∧ A ≤ 16777216) (k : Nat) : (0 ≤ RenoSteps.P A m f ∧ RenoSteps.P A m f ≤ 1099511627776) ∧ fixed_Part.f (k + 1) (wrap64 (A * RenoSteps.S m)) f = some (RenoSteps.P A m f) := by
  have hs := RenoSteps.S_ok m
  have h1 : 0 ≤ A * RenoSteps.S m := Int.mul_nonneg hA.1 (by omega)
  have h2 : A * RenoSteps.S m ≤ 16777216 * 65536 := Int.mul_le_mul hA.2 hs.2 (by omega) (by omega)
  have hp := RenoSteps.parts_ (A * RenoSteps.S m) f h1
  unfold RenoSteps.P
  rw [RenoSteps.w64 (x := A * RenoSteps.S m) (by omega) (by omega), RenoSteps.part_ _ f k (by omega)]
  exact ⟨⟨hp.1, by omega⟩, rfl⟩

theorem RenoSteps.growS (C T Y a m f : Int) (k : Nat) (hc : RenoSteps.S m ≤ C ∧ C ≤ 1073741824) (ht : 0 ≤ T ∧ T ≤ 1073741824) (hy : 0 ≤ Y ∧ Y ≤ 1125899906842623) : ∃ r : Int × Int × Int, reno_Grow.f (k + 1) C T Y a m f = some r ∧ C ≤ r.1 := by
  unfold reno_Grow.f
  rw [RenoSteps.win, RenoSteps.size_s, RenoSteps.clampm_, RenoSteps.mxmn 0 a _ (by omega)]
  have hs := RenoSteps.S_ok m
  have ha : 0 ≤ mn (mx a 0) 16777216 ∧ mn (mx a 0) 16777216 ≤ 16777216 := by unfold mx mn; (repeat' split) <;> omega
  have e1 : mn (mx C (RenoSteps.S m)) 1073741824 = C := by unfold mx mn; (repeat' split) <;> omega
  have e2 : mn (mx T 0) 1073741824 = T := by unfold mx mn; (repeat' split) <;> omega
  have e3 : mn (mx Y 0) 1125899906842623 = Y := by unfold mx mn; (repeat' split) <;> omega
  rw [e1, e2, e3, Option.bind_some, Option.bind_some, Option.bind_some]
  dsimp only
  unfold reno_Slow.f
  rw [Option.bind_some]
  generalize mn (mx a 0) 16777216 = A at *
  have hC1 : 1 ≤ C := by omega
  by_cases h : C < T
  · rw [decide_eq_true h, if_pos rfl, RenoSteps.w64 (x := T - C) (by omega) (by omega)]
    have hm : 0 ≤ mn A (T - C) ∧ mn A (T - C) ≤ T - C ∧ mn A (T - C) ≤ A := by unfold mn; (repeat' split) <;> omega
    generalize mn A (T - C) = F at *
    rw [RenoSteps.w64 (x := A - F) (by omega) (by omega), RenoSteps.w64 (x := C + F) (by omega) (by omega)]
    obtain ⟨hp, e4⟩ := RenoSteps.P_ok (A - F) m f (by omega) k
    rw [e4, Option.bind_some]
    have t1 := RenoSteps.tail_ (C + F) T Y (RenoSteps.P (A - F) m f) m (by omega) hp hy
    have t2 := RenoSteps.step_ge (C + F) T Y (RenoSteps.P (A - F) m f) m (by omega) hp.1 hy.1
    exact ⟨_, t1, by omega⟩
  · rw [decide_eq_false h, if_neg (by decide)]
    obtain ⟨hp, e4⟩ := RenoSteps.P_ok A m f ha k
    rw [e4, Option.bind_some]
    exact ⟨_, RenoSteps.tail_ C T Y (RenoSteps.P A m f) m ⟨hC1, hc.2⟩ hp hy, RenoSteps.step_ge C T Y (RenoSteps.P A m f) m ⟨hC1, hc.2⟩ hp.1 hy.1⟩

theorem RenoSteps : leatlaw24_RenoSteps.Pure := by
  intro c t y a m f w0 w1 w2 w3 w4 w5
  refine ⟨5, ?_⟩
  have hw : leatlaw24_works.f (4 + 1) = some true := by kernel_rfl
  have hs := RenoSteps.S_ok m
  unfold leatlaw24_RenoSteps.f
  rw [RenoSteps.rwin, Option.bind_some]
  dsimp only
  have hc : RenoSteps.S m ≤ mn (mx c (RenoSteps.S m)) 1073741824 ∧ mn (mx c (RenoSteps.S m)) 1073741824 ≤ 1073741824 := by unfold mx mn; (repeat' split) <;> omega
  have ht : 0 ≤ mn (mx t 0) 1073741824 ∧ mn (mx t 0) 1073741824 ≤ 1073741824 := by unfold mx mn; (repeat' split) <;> omega
  have hy : 0 ≤ mn (mx y 0) 1125899906842623 ∧ mn (mx y 0) 1125899906842623 ≤ 1125899906842623 := by unfold mx mn; (repeat' split) <;> omega
  generalize mn (mx c (RenoSteps.S m)) 1073741824 = C at *
  generalize mn (mx t 0) 1073741824 = T at *
  generalize mn (mx y 0) 1125899906842623 = Y at *
  obtain ⟨r, e1, h1⟩ := RenoSteps.growS C T Y a m f 4 hc ht hy
  have hp := RenoSteps.parts_ C f (by omega)
  have e2 : reno_Cut.f (4 + 1) C T Y f m = some (mx (C - C * mn (mx f 0) 1048576 / 1048576) (mn (2 * RenoSteps.S m) C), mx (C - C * mn (mx f 0) 1048576 / 1048576) (mn (2 * RenoSteps.S m) C), 0) := by
    unfold reno_Cut.f
    have e3 : mn (mx C (RenoSteps.S m)) 1073741824 = C := by unfold mx mn; (repeat' split) <;> omega
    rw [RenoSteps.win, RenoSteps.size_s, e3, Option.bind_some, Option.bind_some]
    dsimp only
    rw [RenoSteps.part_ C f 4 (by omega), Option.bind_some, RenoSteps.w64 (x := C - C * mn (mx f 0) 1048576 / 1048576) (by omega) (by omega), RenoSteps.w64 (x := 2 * RenoSteps.S m) (by omega) (by omega)]
  generalize C * mn (mx f 0) 1048576 / 1048576 = p at *
  have hm : mx (C - p) (mn (2 * RenoSteps.S m) C) ≤ C ∧ mn C (2 * RenoSteps.S m) ≤ mx (C - p) (mn (2 * RenoSteps.S m) C) := by unfold mx mn; (repeat' split) <;> omega
  rw [e1, Option.bind_some, e2, Option.bind_some]
  dsimp only
  rw [if_pos h1, if_pos hm.1, RenoSteps.rsize_s, Option.bind_some, RenoSteps.w64 (x := 2 * RenoSteps.S m) (by omega) (by omega), if_pos hm.2, if_pos rfl, hw, Option.bind_some]

end Go.Proofs.Ythoeidcpemfmlaa.Pure
