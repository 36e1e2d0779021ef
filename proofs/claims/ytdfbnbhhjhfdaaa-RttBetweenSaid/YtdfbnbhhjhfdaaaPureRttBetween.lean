/- The pure statement of RttBetween: the smoothed round trip lies between the least and the greatest sample. -/
import Derived.Test.YtdfbnbhhjhfdaaaPRttBetweenx2
namespace Go.Proofs.Ytdfbnbhhjhfdaaa.Pure
open Go.RowKit Go.Proofs.Ytdfbnbhhjhfdaaa.PRttBetween Go.Proofs.YtdfbnbhhjhfdaaaW.PrintWords Go.Proofs.YtdfbnbhhjhfdaaaW.PrintLast Go.Proofs.YtdfbnbhhjhfdaaaW.PrintMore

theorem RttBetween.w64 {x : Int} (h0 : -9223372036854775808 ≤ x) (h1 : x ≤ 9223372036854775807) : wrap64 x = x := by
  unfold wrap64; omega

theorem RttBetween.clamp_ (x lo hi : Int) : sat_Clamp.f x lo hi = some (if (if hi < x then hi else x) < lo then lo else (if hi < x then hi else x)) := by
  unfold sat_Clamp.f mx mn
  congr 1
  by_cases h : hi < x
  · rw [if_pos h]; by_cases h2 : hi < lo
    · rw [if_pos h2, if_neg (by omega)]
    · rw [if_neg h2]; by_cases h3 : lo < hi
      · rw [if_pos h3]
      · rw [if_neg h3]; omega
  · rw [if_neg h]; by_cases h2 : x < lo
    · rw [if_pos h2, if_neg (by omega)]
    · rw [if_neg h2]; by_cases h3 : lo < x
      · rw [if_pos h3]
      · rw [if_neg h3]; omega

theorem RttBetween.within_ (x v : Int) (s : Bool) (hx : 0 ≤ x ∧ x ≤ 9007199254741000) (hv : 0 ≤ v ∧ v ≤ 9007199254741000) : rtt_within.f x v s = some (x, v, s) := by
  unfold rtt_within.f rtt_within_1.f
  rw [RttBetween.clamp_, RttBetween.clamp_, if_neg (show ¬ 9007199254741000 < x by omega), if_neg (show ¬ 9007199254741000 < v by omega), if_neg (show ¬ x < 0 by omega), if_neg (show ¬ v < 0 by omega)]
  rfl

theorem RttBetween.abs_ (a : Int) (k : Nat) (ha : -9223372036854775808 < a ∧ a ≤ 9223372036854775807) : sat_Abs.f (k + 1) a = some (if a < 0 then -a else a) := by
  unfold sat_Abs.f sat_size.f sat_signed.f
  simp only [sat_signed.j0]
  by_cases c : a < 0
  · rw [if_pos c, if_pos c]
    simp only [Option.bind_some]
    rw [if_neg (by decide), if_neg (by decide), if_neg (by decide)]
    have e : IntKind.u64.wrap (-(IntKind.u64.wrap a)) = -a := by rw [IntKind.wrap_u64, IntKind.wrap_u64]; omega
    rw [e, if_neg (by omega), RttBetween.w64 (by omega) (by omega)]; rfl
  · rw [if_neg c, if_neg c]
    simp only [Option.bind_some]
    rw [if_neg (by decide), if_neg (by decide), if_neg (by decide)]
    have e : IntKind.u64.wrap a = a := by rw [IntKind.wrap_u64]; omega
    rw [e, if_neg (by omega), RttBetween.w64 (by omega) (by omega)]; rfl

theorem RttBetween.smooth_ (x v : Int) (s : Bool) (hx : 0 ≤ x ∧ x ≤ 9007199254741000) (hv : 0 ≤ v ∧ v ≤ 9007199254741000) : rtt_Smooth.f x v s = some (x / 8) := by
  unfold rtt_Smooth.f; rw [RttBetween.within_ x v s hx hv]; rfl

theorem RttBetween.vary_ (x v : Int) (s : Bool) (hx : 0 ≤ x ∧ x ≤ 9007199254741000) (hv : 0 ≤ v ∧ v ≤ 9007199254741000) : rtt_Vary.f x v s = some (v / 4) := by
  unfold rtt_Vary.f; rw [RttBetween.within_ x v s hx hv]; rfl

theorem RttBetween.sample_ (x v r : Int) (s : Bool) (k : Nat) (hx : 0 ≤ x ∧ x ≤ 9007199254741000) (hv : 0 ≤ v ∧ v ≤ 9007199254741000) (hr : 1 ≤ r ∧ r ≤ 1125899906842624) :
    rtt_Sample.f (k + 1) x v s r = some (if s = true then (x + (r - x / 8), v + ((if r - x / 8 < 0 then -(r - x / 8) else r - x / 8) - v / 4), true) else (8 * r, 2 * r, true)) := by
  unfold rtt_Sample.f
  rw [RttBetween.within_ x v s hx hv, RttBetween.clamp_, if_neg (show ¬ 1125899906842624 < r by omega), if_neg (show ¬ r < 1 by omega)]
  simp only [Option.bind_some]
  rw [RttBetween.smooth_ x v s hx hv, RttBetween.vary_ x v s hx hv]
  simp only [Option.bind_some]
  rw [RttBetween.w64 (x := r - x / 8) (by omega) (by omega), RttBetween.abs_ (r - x / 8) k (by omega)]
  simp only [Option.bind_some]
  cases s
  · simp only [Bool.false_eq_true, if_false]
    rw [RttBetween.w64 (x := 8 * r) (by omega) (by omega), RttBetween.w64 (x := 2 * r) (by omega) (by omega)]
  · simp only [if_true]
    have hd : 0 ≤ (if r - x / 8 < 0 then -(r - x / 8) else r - x / 8) ∧ (if r - x / 8 < 0 then -(r - x / 8) else r - x / 8) ≤ 1125899906842625 := by split <;> omega
    generalize (if r - x / 8 < 0 then -(r - x / 8) else r - x / 8) = d at *
    rw [RttBetween.w64 (x := x + (r - x / 8)) (by omega) (by omega), RttBetween.w64 (x := d - v / 4) (by omega) (by omega), RttBetween.w64 (x := v + (d - v / 4)) (by omega) (by omega)]

theorem RttBetween.rd_range (l : List Int) (hl : ∀ x ∈ l, (Lit.int .u32 x).wf = true) (i : Int) : 0 ≤ rd l i ∧ rd l i ≤ 4294967295 := by
  unfold rd
  by_cases h : i.toNat < l.length
  · rw [List.getD_eq_getElem?_getD, List.getElem?_eq_getElem h]
    have h2 := hl _ (List.getElem_mem h)
    simp only [Lit.wf, IntKind.min, IntKind.max, IntKind.signed, IntKind.bits, Bool.and_eq_true] at h2
    simpa using h2
  · rw [List.getD_eq_getElem?_getD, List.getElem?_eq_none (by omega)]; simp

theorem RttBetween.mn_le (a b : Int) : mn a b ≤ a ∧ mn a b ≤ b ∧ (mn a b = a ∨ mn a b = b) := by unfold mn; split <;> omega
theorem RttBetween.mx_ge (a b : Int) : a ≤ mx a b ∧ b ≤ mx a b ∧ (mx a b = a ∨ mx a b = b) := by unfold mx; split <;> omega

/-- What holds at each round's head. -/
def RttBetween.inv (lo hi x v : Int) (s : Bool) : Prop :=
  0 ≤ v ∧ v ≤ 34359738368 ∧ ((s = false ∧ x = 0 ∧ v = 0 ∧ lo = 1125899906842624 ∧ hi = 0) ∨ (s = true ∧ 1 ≤ lo ∧ hi ≤ 4294967296 ∧ 8 * lo ≤ x ∧ x ≤ 8 * hi + 7))

theorem RttBetween.loop_ (l : List Int) (hl : ∀ x ∈ l, (Lit.int .u32 x).wf = true) (d : Nat) : ∀ (k : Nat) (i lo hi x v : Int) (s : Bool), 0 ≤ i → i ≤ 100 → (100 : Int) - i = d → d + 6 ≤ k → RttBetween.inv lo hi x v s →
    leatlaw20_RttBetween.l0 k lo hi l (l.length : Int) i x v s = some true := by
  have hw : ∀ k, leatlaw20_works.f (k + 4) = some true := fun k => by kernel_rfl
  induction d with
  | zero =>
    intro k i lo hi x v s h0 h1 hd hk hI
    obtain ⟨k, rfl⟩ : ∃ m, k = m + 6 := ⟨k - 6, by omega⟩
    rw [leatlaw20_RttBetween.l0, hw (k + 1)]
    by_cases h : i < (l.length : Int)
    · rw [if_pos h, if_pos h0, if_pos h, if_pos (by omega)]; rfl
    · rw [if_neg h]; rfl
  | succ d ih =>
    intro k i lo hi x v s h0 h1 hd hk hI
    obtain ⟨k, rfl⟩ : ∃ m, k = m + 6 := ⟨k - 6, by omega⟩
    rw [leatlaw20_RttBetween.l0]
    by_cases h : i < (l.length : Int)
    · rw [if_pos h, if_pos h0, if_pos h, if_neg (by omega)]
      have hr := RttBetween.rd_range l hl i
      rw [RttBetween.w64 (x := rd l i) (by omega) (by omega), RttBetween.w64 (x := rd l i + 1) (by omega) (by omega)]
      generalize hrr : rd l i + 1 = r at *
      have hr1 : 1 ≤ r ∧ r ≤ 4294967296 := by omega
      obtain ⟨m1, m2, m3⟩ := RttBetween.mn_le lo r
      obtain ⟨x1, x2, x3⟩ := RttBetween.mx_ge hi r
      generalize hmn : mn lo r = lo' at *
      generalize hmx : mx hi r = hi' at *
      unfold RttBetween.inv at hI
      obtain ⟨v0, v1, hI⟩ := hI
      rcases hI with ⟨rfl, rfl, rfl, rfl, rfl⟩ | ⟨rfl, a1, a2, a3, a4⟩
      · rw [RttBetween.sample_ 0 0 r false (k + 4) (by omega) (by omega) (by omega)]
        simp only [Option.bind_some, Bool.false_eq_true, if_false]
        rw [RttBetween.smooth_ (8 * r) (2 * r) true (by omega) (by omega)]
        simp only [Option.bind_some]
        rw [if_neg (by omega), if_neg (by omega), if_neg (by omega), if_pos trivial, RttBetween.w64 (x := i + 1) (by omega) (by omega)]
        exact ih (k + 5) (i + 1) lo' hi' (8 * r) (2 * r) true (by omega) (by omega) (by omega) (by omega) ⟨by omega, by omega, .inr ⟨rfl, by omega, by omega, by omega, by omega⟩⟩
      · rw [RttBetween.sample_ x v r true (k + 4) (by omega) (by omega) (by omega)]
        simp only [Option.bind_some, if_true]
        have hdd : 0 ≤ (if r - x / 8 < 0 then -(r - x / 8) else r - x / 8) ∧ (if r - x / 8 < 0 then -(r - x / 8) else r - x / 8) ≤ 4294967296 := by split <;> omega
        generalize (if r - x / 8 < 0 then -(r - x / 8) else r - x / 8) = dd at *
        rw [RttBetween.smooth_ (x + (r - x / 8)) (v + (dd - v / 4)) true (by omega) (by omega)]
        simp only [Option.bind_some]
        rw [if_neg (by omega), if_neg (by omega), if_neg (by omega), RttBetween.w64 (x := i + 1) (by omega) (by omega)]
        exact ih (k + 5) (i + 1) lo' hi' _ _ true (by omega) (by omega) (by omega) (by omega) ⟨by omega, by omega, .inr ⟨rfl, by omega, by omega, by omega, by omega⟩⟩
    · rw [if_neg h, hw (k + 1)]; rfl

theorem RttBetween : leatlaw20_RttBetween.Pure := by
  intro l h1 h2 hl
  refine ⟨110, ?_⟩
  unfold leatlaw20_RttBetween.f
  by_cases h : (l.length : Int) = 0
  · rw [if_pos h]
    have hw : leatlaw20_works.f (106 + 4) = some true := by kernel_rfl
    rw [hw]; rfl
  · rw [if_neg h]
    exact RttBetween.loop_ l hl 100 110 0 1125899906842624 0 0 0 false (by omega) (by omega) (by omega) (by omega) ⟨by omega, by omega, .inl ⟨rfl, rfl, rfl, rfl, rfl⟩⟩

end Go.Proofs.Ytdfbnbhhjhfdaaa.Pure
