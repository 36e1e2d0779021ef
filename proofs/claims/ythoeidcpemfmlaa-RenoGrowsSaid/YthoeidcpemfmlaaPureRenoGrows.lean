/- The pure statement of RenoGrows: any window behind any bytes that were acknowledged is the reference's. -/
import Derived.Test.YthoeidcpemfmlaaPRenoGrowsx7
import Derived.Lib.Mul64
import Derived.Laws.Bits64
namespace Go.Proofs.Ythoeidcpemfmlaa.Pure
open Go.RowKit Go.Proofs.Ythoeidcpemfmlaa.PRenoGrows Go.Proofs.YthoeidcpemfmlaaW.PrintWords Go.Proofs.YthoeidcpemfmlaaW.PrintLast Go.Proofs.YthoeidcpemfmlaaW.PrintMore Go.Proofs.Ythoeidcpemfmlaa.Inj
open Go.Lib

theorem RenoGrows.w64 {x : Int} (h0 : -9223372036854775808 ≤ x) (h1 : x ≤ 9223372036854775807) : wrap64 x = x := by
  unfold wrap64; omega
/-- What is known of a quotient and a rest. -/
theorem RenoGrows.parts (a b : Int) (hb : b ≠ 0) : a = a.tdiv b * b + a.tmod b ∧ (0 ≤ a → 0 ≤ a.tmod b) ∧ (a ≤ 0 → a.tmod b ≤ 0) ∧ (a.tmod b).natAbs < b.natAbs ∧ (a.tdiv b).natAbs ≤ a.natAbs := by
  refine ⟨by have := Int.mul_tdiv_add_tmod a b; rw [Int.mul_comm]; omega, fun h => Int.tmod_nonneg b h, fun h => ?_, ?_, ?_⟩
  · have h2 := Int.tmod_nonneg b (show 0 ≤ -a by omega)
    rw [Int.neg_tmod] at h2; omega
  · rw [Int.natAbs_tmod]; exact Nat.mod_lt _ (by omega)
  · rw [Int.natAbs_tdiv]; exact Nat.div_le_self _ _

/-- Quotient and rest of a divisor above 0. -/
theorem RenoGrows.div_ (a b : Int) (k : Nat) (ha : -9223372036854775808 ≤ a ∧ a ≤ 9223372036854775807) (hb : 0 < b ∧ b ≤ 9223372036854775807) :
    ∃ q r, sat_Div.f (k + 1) a b = some q ∧ sat_Mod.f a b = some r ∧ 0 ≤ r ∧ r < b ∧ q * b + r = a := by
  obtain ⟨e, p1, p2, p3, p4⟩ := RenoGrows.parts a b (by omega)
  unfold sat_Div.f sat_Mod.f
  have l : (if a = -9223372036854775808 then sat_Div.j0 (k + 1) a b (b == -1) else sat_Div.j0 (k + 1) a b false) = sat_Div.j0 (k + 1) a b false := by
    rw [show (b == -1) = false by simp; omega]; split <;> rfl
  rw [if_neg (by omega), l]
  simp only [sat_Div.j0]
  rw [if_neg (by decide), if_neg (by omega), if_neg (show ¬ b ≤ 0 by omega), if_neg (show ¬ b = 0 by omega)]
  have hs : a < 0 → a.tdiv b ≤ 0 := fun h => by
    have h2 := Int.tdiv_nonneg (show 0 ≤ -a by omega) (show 0 ≤ b by omega)
    rw [Int.neg_tdiv] at h2; omega
  have w1 : wrap64 (a.tdiv b) = a.tdiv b := RenoGrows.w64 (by omega) (by omega)
  have hd : decide (b < 0) = false := by simp; omega
  rw [w1, hd]
  by_cases h2 : a.tmod b = 0
  · rw [if_pos h2, if_neg (show ¬ a.tmod b < 0 by omega)]
    exact ⟨_, _, rfl, rfl, by omega, by omega, by omega⟩
  · rw [if_neg h2]
    by_cases h3 : a < 0
    · rw [if_pos (by simpa using h3), if_pos (by omega)]
      have hlow : -9223372036854775808 < a.tdiv b := by
        have h4 : (a.tdiv b).natAbs * b.natAbs ≤ a.natAbs := by
          rw [Int.natAbs_tdiv]; exact Nat.div_mul_le_self _ _
        by_cases h5 : b = 1
        · subst h5; have := Int.tmod_one a; omega
        · have h6 := Nat.mul_le_mul_left (a.tdiv b).natAbs (show 2 ≤ b.natAbs by omega)
          omega
      refine ⟨_, _, rfl, rfl, ?_, ?_, ?_⟩
      · rw [RenoGrows.w64 (by omega) (by omega)]; omega
      · rw [RenoGrows.w64 (by omega) (by omega)]; omega
      · rw [RenoGrows.w64 (by omega) (by omega), RenoGrows.w64 (by omega) (by omega), Int.sub_mul]; omega
    · rw [if_neg (by simpa using h3), if_neg (by omega)]
      exact ⟨_, _, rfl, rfl, by omega, by omega, by omega⟩


/-- A quotient, downwards. -/
theorem RenoGrows.divp_ (a b : Int) (k : Nat) (ha : -9223372036854775808 ≤ a ∧ a ≤ 9223372036854775807) (hb : 0 < b ∧ b ≤ 9223372036854775807) : sat_Div.f (k + 1) a b = some (a / b) := by
  obtain ⟨q, r, e1, _, h0, h1, h2⟩ := RenoGrows.div_ a b k ha hb
  have : a / b = q := by
    rw [← h2, Int.mul_comm q b, Int.add_comm, Int.add_mul_ediv_left _ _ (by omega), Int.ediv_eq_zero_of_lt h0 h1, Int.zero_add]
  rw [e1, this]

theorem RenoGrows.clampm_ (x lo hi : Int) : sat_Clamp.f x lo hi = some (mx lo (mn x hi)) := rfl


theorem RenoGrows.mxmn (lo x hi : Int) (h : lo ≤ hi) : mx lo (mn x hi) = mn (mx x lo) hi := by unfold mx mn; (repeat' split) <;> omega

/-- A share of a number, as the program tells it. -/
theorem RenoGrows.part_ (x f : Int) (k : Nat) (hx : 0 ≤ x ∧ x ≤ 4398046511103) : fixed_Part.f (k + 1) x f = some (x * mn (mx f 0) 1048576 / 1048576) := by
  unfold fixed_Part.f fixed_share.f
  have hs : 0 ≤ mn (mx f 0) 1048576 ∧ mn (mx f 0) 1048576 ≤ 1048576 := by unfold mx mn; (repeat' split) <;> omega
  rw [RenoGrows.clampm_, RenoGrows.mxmn 0 f _ (by omega)]
  simp only [Option.bind_some]
  rw [RenoGrows.divp_ x 1048576 k (by omega) (by omega)]
  have hm : sat_Mod.f x 1048576 = some (x % 1048576) := by
    unfold sat_Mod.f
    rw [if_neg (by omega), if_neg (by omega), Int.tmod_eq_emod_of_nonneg hx.1, if_neg (by omega)]
  rw [hm]
  simp only [Option.bind_some]
  generalize mn (mx f 0) 1048576 = s at *
  have e : x * s = x % 1048576 * s + 1048576 * (x / 1048576 * s) := by
    have h := Int.mul_ediv_add_emod x 1048576
    have h2 : x * s = (1048576 * (x / 1048576) + x % 1048576) * s := by rw [h]
    rw [h2, Int.add_mul, Int.mul_assoc]; omega
  have ha : 0 ≤ x / 1048576 * s ∧ x / 1048576 * s ≤ 4398046511104 := ⟨Int.mul_nonneg (by omega) hs.1, by have := Int.mul_le_mul (show x / 1048576 ≤ 4194304 by omega) hs.2 hs.1 (by omega); omega⟩
  have hb : 0 ≤ x % 1048576 * s ∧ x % 1048576 * s ≤ 1099511627776 := ⟨Int.mul_nonneg (by omega) hs.1, by have := Int.mul_le_mul (show x % 1048576 ≤ 1048576 by omega) hs.2 hs.1 (by omega); omega⟩
  rw [e, Int.add_mul_ediv_left _ _ (by omega), RenoGrows.w64 (x := x % 1048576 * s) (by omega) (by omega), Int.tdiv_eq_ediv_of_nonneg hb.1, RenoGrows.w64 (x := x % 1048576 * s / 1048576) (by omega) (by omega), RenoGrows.w64 (x := x / 1048576 * s) (by omega) (by omega), RenoGrows.w64 (by omega) (by omega)]
  congr 1; omega

theorem RenoGrows.rpart_ (x f : Int) (k : Nat) (hx : 0 ≤ x ∧ x ≤ 4398046511103) : leatref04_Part.f k x f = some (x * mn (mx f 0) 1048576 / 1048576) := by
  unfold leatref04_Part.f leatref04_Share.f leatref04_quo.f
  have hs : 0 ≤ mn (mx f 0) 1048576 ∧ mn (mx f 0) 1048576 ≤ 1048576 := by unfold mx mn; (repeat' split) <;> omega
  simp only [Option.bind_some]
  generalize mn (mx f 0) 1048576 = s at *
  have hp : 0 ≤ x * s ∧ x * s ≤ 4611686018427387904 := ⟨Int.mul_nonneg hx.1 hs.1, by have := Int.mul_le_mul hx.2 hs.2 hs.1 (by omega); omega⟩
  rw [if_pos (by omega), if_pos (by omega), if_pos hs.2, if_neg (by omega), RenoGrows.w64 (x := x * s) (by omega) (by omega), Int.tdiv_eq_ediv_of_nonneg hp.1, RenoGrows.w64 (by omega) (by omega)]
  rfl

theorem RenoGrows.within_ (c t y m : Int) : ∃ c' t' y' s : Int, reno_Within.f c t y m = some (c', t', y') ∧ leatref24_Within.f c t y m = some (c', t', y') ∧ reno_size.f m = some s ∧ leatref24_Size.f m = some s ∧ 1 ≤ s ∧ s ≤ 65536 ∧ s ≤ c' ∧ c' ≤ 1073741824 ∧ 0 ≤ t' ∧ t' ≤ 1073741824 ∧ 0 ≤ y' ∧ y' ≤ 1125899906842623 := by
  have hs : 1 ≤ mn (mx m 1) 65536 ∧ mn (mx m 1) 65536 ≤ 65536 := by unfold mx mn; (repeat' split) <;> omega
  refine ⟨mn (mx c (mn (mx m 1) 65536)) 1073741824, mn (mx t 0) 1073741824, mn (mx y 0) 1125899906842623, mn (mx m 1) 65536, ?_, rfl, ?_, rfl, hs.1, hs.2, ?_⟩
  · unfold reno_Within.f
    rw [RenoGrows.mxmn 1 m _ (by omega), RenoGrows.mxmn _ c _ (by omega), RenoGrows.mxmn 0 t _ (by omega), RenoGrows.mxmn 0 y _ (by omega)]
  · unfold reno_size.f; rw [RenoGrows.clampm_, RenoGrows.mxmn 1 m _ (by omega)]; rfl
  · generalize mn (mx m 1) 65536 = s at *
    unfold mx mn; (repeat' split) <;> omega

theorem RenoGrows.parts_ (x f : Int) (hx : 0 ≤ x) : 0 ≤ x * mn (mx f 0) 1048576 / 1048576 ∧ x * mn (mx f 0) 1048576 / 1048576 ≤ x := by
  have hs : 0 ≤ mn (mx f 0) 1048576 ∧ mn (mx f 0) 1048576 ≤ 1048576 := by unfold mx mn; (repeat' split) <;> omega
  generalize mn (mx f 0) 1048576 = s at *
  have h1 : 0 ≤ x * s := Int.mul_nonneg hx hs.1
  have h2 : x * s ≤ x * 1048576 := Int.mul_le_mul_of_nonneg_left hs.2 hx
  omega


/-- A size kept within its ends. -/
def RenoGrows.S (m : Int) : Int := mn (mx m 1) 65536
theorem RenoGrows.S_ok (m : Int) : 1 ≤ RenoGrows.S m ∧ RenoGrows.S m ≤ 65536 := by unfold RenoGrows.S mx mn; (repeat' split) <;> omega
theorem RenoGrows.S_S (m : Int) : RenoGrows.S (RenoGrows.S m) = RenoGrows.S m := by
  have h := RenoGrows.S_ok m
  generalize RenoGrows.S m = s at *
  unfold RenoGrows.S mx mn; (repeat' split) <;> omega
theorem RenoGrows.win (c t y m : Int) : reno_Within.f c t y m = some (mn (mx c (RenoGrows.S m)) 1073741824, mn (mx t 0) 1073741824, mn (mx y 0) 1125899906842623) := by
  have hs := RenoGrows.S_ok m
  unfold reno_Within.f
  rw [RenoGrows.mxmn 1 m _ (by omega)]
  unfold RenoGrows.S at *
  rw [RenoGrows.mxmn _ c _ (by omega), RenoGrows.mxmn 0 t _ (by omega), RenoGrows.mxmn 0 y _ (by omega)]
theorem RenoGrows.rwin (c t y m : Int) : leatref24_Within.f c t y m = some (mn (mx c (RenoGrows.S m)) 1073741824, mn (mx t 0) 1073741824, mn (mx y 0) 1125899906842623) := rfl
theorem RenoGrows.size_s (m : Int) : reno_size.f m = some (RenoGrows.S m) := by
  unfold reno_size.f RenoGrows.S; rw [RenoGrows.clampm_, RenoGrows.mxmn 1 m _ (by omega)]; rfl
theorem RenoGrows.rsize_s (m : Int) : leatref24_Size.f m = some (RenoGrows.S m) := rfl

/-- The growth behind a window's fast part. -/
def RenoGrows.step (C t y p m : Int) : Int × Int × Int := (mn (mx (C + (y + p) / C) (RenoGrows.S m)) 1073741824, mn (mx t 0) 1073741824, mn (mx ((y + p) % C) 0) 1125899906842623)

theorem RenoGrows.tail_ (C t y p m : Int) (hC : 1 ≤ C ∧ C ≤ 1073741824) (hp : 0 ≤ p ∧ p ≤ 1099511627776) (hy : 0 ≤ y ∧ y ≤ 1125899906842623) :
    ((if C = 0 then (none) else ((reno_Within.f (wrap64 (C + (wrap64 (Int.tdiv (wrap64 (y + p)) C)))) t (wrap64 ((wrap64 (y + p)) - (wrap64 ((wrap64 (Int.tdiv (wrap64 (y + p)) C)) * C)))) (RenoGrows.S m)).bind fun bt120 => (some (bt120.1, bt120.2.1, bt120.2.2)))) = some (RenoGrows.step C t y p m)) ∧
    ((if C = 0 then (none) else ((leatref24_Within.f (wrap64 (C + (wrap64 (Int.tdiv (wrap64 (y + p)) C)))) t (Int.tmod (wrap64 (y + p)) C) m).bind fun bt253 => (some (bt253.1, bt253.2.1, bt253.2.2)))) = some (RenoGrows.step C t y p m)) := by
  rw [if_neg (by omega), if_neg (by omega), RenoGrows.w64 (x := y + p) (by omega) (by omega)]
  have hd : Int.tdiv (y + p) C = (y + p) / C := Int.tdiv_eq_ediv_of_nonneg (by omega)
  have hm : Int.tmod (y + p) C = (y + p) % C := Int.tmod_eq_emod_of_nonneg (by omega)
  have hq0 : 0 ≤ (y + p) / C := Int.ediv_nonneg (by omega) (by omega)
  have hq1 : (y + p) / C ≤ y + p := Int.ediv_le_self _ (by omega)
  have hr0 := Int.emod_nonneg (y + p) (show C ≠ 0 by omega)
  have hr1 := Int.emod_lt_of_pos (y + p) (show 0 < C by omega)
  have hdm : (y + p) / C * C = (y + p) - (y + p) % C := by
    have := Int.mul_ediv_add_emod (y + p) C
    rw [Int.mul_comm] at this; omega
  rw [hd, hm, RenoGrows.w64 (x := (y + p) / C) (by omega) (by omega), RenoGrows.w64 (x := C + (y + p) / C) (by omega) (by omega), hdm, RenoGrows.w64 (x := y + p - (y + p) % C) (by omega) (by omega), RenoGrows.w64 (x := y + p - (y + p - (y + p) % C)) (by omega) (by omega)]
  rw [RenoGrows.win, RenoGrows.rwin, RenoGrows.S_S]
  have e : y + p - (y + p - (y + p) % C) = (y + p) % C := by omega
  rw [e]
  exact ⟨rfl, rfl⟩

/-- A part told of a product. -/
def RenoGrows.P (A m f : Int) : Int := A * RenoGrows.S m * mn (mx f 0) 1048576 / 1048576
theorem RenoGrows.P_ok (A m f : Int) (hA : 0 ≤ A ∧ A ≤ 16777216) (k : Nat) : (0 ≤ RenoGrows.P A m f ∧ RenoGrows.P A m f ≤ 1099511627776) ∧ fixed_Part.f (k + 1) (wrap64 (A * RenoGrows.S m)) f = some (RenoGrows.P A m f) ∧ leatref04_Part.f k (wrap64 (A * RenoGrows.S m)) f = some (RenoGrows.P A m f) := by
  have hs := RenoGrows.S_ok m
  have h1 : 0 ≤ A * RenoGrows.S m := Int.mul_nonneg hA.1 (by omega)
  have h2 : A * RenoGrows.S m ≤ 16777216 * 65536 := Int.mul_le_mul hA.2 hs.2 (by omega) (by omega)
  have hp := RenoGrows.parts_ (A * RenoGrows.S m) f h1
  unfold RenoGrows.P
  rw [RenoGrows.w64 (x := A * RenoGrows.S m) (by omega) (by omega), RenoGrows.part_ _ f k (by omega), RenoGrows.rpart_ _ f k (by omega)]
  exact ⟨⟨hp.1, by omega⟩, rfl, rfl⟩

theorem RenoGrows.growS (c t y a m f : Int) (k : Nat) : ∃ r : Int × Int × Int, reno_Grow.f (k + 1) c t y a m f = some r ∧ leatref24_Grow.f (k + 1) c t y a m f = some r := by
  unfold reno_Grow.f leatref24_Grow.f
  rw [RenoGrows.win, RenoGrows.rwin, RenoGrows.size_s, RenoGrows.rsize_s, RenoGrows.clampm_, RenoGrows.mxmn 0 a _ (by omega)]
  have hs := RenoGrows.S_ok m
  have ha : 0 ≤ mn (mx a 0) 16777216 ∧ mn (mx a 0) 16777216 ≤ 16777216 := by unfold mx mn; (repeat' split) <;> omega
  have hc : 1 ≤ mn (mx c (RenoGrows.S m)) 1073741824 ∧ mn (mx c (RenoGrows.S m)) 1073741824 ≤ 1073741824 := by unfold mx mn; (repeat' split) <;> omega
  have ht : 0 ≤ mn (mx t 0) 1073741824 ∧ mn (mx t 0) 1073741824 ≤ 1073741824 := by unfold mx mn; (repeat' split) <;> omega
  have hy : 0 ≤ mn (mx y 0) 1125899906842623 ∧ mn (mx y 0) 1125899906842623 ≤ 1125899906842623 := by unfold mx mn; (repeat' split) <;> omega
  simp only [Option.bind_some, reno_Slow.f, decide_eq_true_eq]
  generalize mn (mx a 0) 16777216 = A at *
  generalize mn (mx c (RenoGrows.S m)) 1073741824 = C at *
  generalize mn (mx t 0) 1073741824 = T at *
  generalize mn (mx y 0) 1125899906842623 = Y at *
  by_cases h : C < T
  · rw [if_pos h, if_pos h, RenoGrows.w64 (x := T - C) (by omega) (by omega)]
    by_cases g : A > T - C
    · rw [if_pos g]
      have e : mn A (T - C) = T - C := by unfold mn; (repeat' split) <;> omega
      have e2 : C + (T - C) = T := by omega
      rw [e, e2, RenoGrows.w64 (x := A - (T - C)) (by omega) (by omega), RenoGrows.w64 (x := T) (by omega) (by omega)]
      obtain ⟨hp, e3, e4⟩ := RenoGrows.P_ok (A - (T - C)) m f (by omega) (k + 1)
      obtain ⟨_, e3, _⟩ := RenoGrows.P_ok (A - (T - C)) m f (by omega) k
      rw [e3, e4]
      obtain ⟨t1, t2⟩ := RenoGrows.tail_ T T Y (RenoGrows.P (A - (T - C)) m f) m (by omega) hp hy
      exact ⟨_, t1, t2⟩
    · rw [if_neg g]
      have e : mn A (T - C) = A := by unfold mn; (repeat' split) <;> omega
      rw [e, RenoGrows.w64 (x := A - A) (by omega) (by omega), RenoGrows.w64 (x := C + A) (by omega) (by omega)]
      obtain ⟨hp, _, e4⟩ := RenoGrows.P_ok 0 m f (by omega) (k + 1)
      obtain ⟨_, e3, _⟩ := RenoGrows.P_ok 0 m f (by omega) k
      have e0 : A - A = 0 := by omega
      have e1 : wrap64 (0 * RenoGrows.S m) = 0 := by rw [Int.zero_mul]; exact RenoGrows.w64 (by omega) (by omega)
      rw [e1] at e4
      rw [e0, e3, e4]
      obtain ⟨t1, t2⟩ := RenoGrows.tail_ (C + A) T Y (RenoGrows.P 0 m f) m (by omega) hp hy
      exact ⟨_, t1, t2⟩
  · rw [if_neg h, if_neg h]
    obtain ⟨hp, _, e4⟩ := RenoGrows.P_ok A m f ha (k + 1)
    obtain ⟨_, e3, _⟩ := RenoGrows.P_ok A m f ha k
    rw [e3, e4]
    obtain ⟨t1, t2⟩ := RenoGrows.tail_ C T Y (RenoGrows.P A m f) m hc hp hy
    exact ⟨_, t1, t2⟩

theorem RenoGrows : leatlaw24_RenoGrows.Pure := by
  intro c t y a m f w0 w1 w2 w3 w4 w5
  refine ⟨5, ?_⟩
  have hw : leatlaw24_works.f (4 + 1) = some true := by kernel_rfl
  unfold leatlaw24_RenoGrows.f
  obtain ⟨c', t', y', s, e1, e2, e3, e4, s1, s2, a1, a2, b1, b2, d1, d2⟩ := RenoGrows.within_ c t y m
  obtain ⟨r, g1, g2⟩ := RenoGrows.growS c t y a m f 4
  rw [g1, g2, e1, e2, hw]
  unfold reno_Slow.f
  simp

end Go.Proofs.Ythoeidcpemfmlaa.Pure
