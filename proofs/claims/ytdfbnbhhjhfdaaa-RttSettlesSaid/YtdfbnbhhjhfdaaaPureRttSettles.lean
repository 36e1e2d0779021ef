/- The pure statement of RttSettles: of one sample that comes again and again the smoothed round trip is that, and its variation falls to nothing. -/
import Derived.Test.YtdfbnbhhjhfdaaaPRttSettlesx2
namespace Go.Proofs.Ytdfbnbhhjhfdaaa.Pure
open Go.RowKit Go.Proofs.Ytdfbnbhhjhfdaaa.PRttSettles Go.Proofs.YtdfbnbhhjhfdaaaW.PrintWords Go.Proofs.YtdfbnbhhjhfdaaaW.PrintLast Go.Proofs.YtdfbnbhhjhfdaaaW.PrintMore

theorem RttSettles.w64 {x : Int} (h0 : -9223372036854775808 ≤ x) (h1 : x ≤ 9223372036854775807) : wrap64 x = x := by
  unfold wrap64; omega

theorem RttSettles.clamp_ (x lo hi : Int) : sat_Clamp.f x lo hi = some (if (if hi < x then hi else x) < lo then lo else (if hi < x then hi else x)) := by
  unfold sat_Clamp.f mx mn
  congr 1
  by_cases h : hi < x
  · rw [if_pos h]; by_cases h2 : hi < lo
    · rw [if_pos h2, if_neg (by omega)]
    · rw [if_neg h2]; by_cases h3 : lo < hi
      · rw [if_pos h3]
      · rw [if_neg h3]; omega
  · rw [if_neg h]; by_cases h2 : x < lo
    · rw [if_pos h2, if_neg (by omega)]
    · rw [if_neg h2]; by_cases h3 : lo < x
      · rw [if_pos h3]
      · rw [if_neg h3]; omega

theorem RttSettles.within_ (x v : Int) (s : Bool) (hx : 0 ≤ x ∧ x ≤ 9007199254741000) (hv : 0 ≤ v ∧ v ≤ 9007199254741000) : rtt_within.f x v s = some (x, v, s) := by
  unfold rtt_within.f rtt_within_1.f
  rw [RttSettles.clamp_, RttSettles.clamp_, if_neg (show ¬ 9007199254741000 < x by omega), if_neg (show ¬ 9007199254741000 < v by omega), if_neg (show ¬ x < 0 by omega), if_neg (show ¬ v < 0 by omega)]
  rfl

theorem RttSettles.abs_ (a : Int) (k : Nat) (ha : -9223372036854775808 < a ∧ a ≤ 9223372036854775807) : sat_Abs.f (k + 1) a = some (if a < 0 then -a else a) := by
  unfold sat_Abs.f sat_size.f sat_signed.f
  simp only [sat_signed.j0]
  by_cases c : a < 0
  · rw [if_pos c, if_pos c]
    simp only [Option.bind_some]
    rw [if_neg (by decide), if_neg (by decide), if_neg (by decide)]
    have e : IntKind.u64.wrap (-(IntKind.u64.wrap a)) = -a := by rw [IntKind.wrap_u64, IntKind.wrap_u64]; omega
    rw [e, if_neg (by omega), RttSettles.w64 (by omega) (by omega)]; rfl
  · rw [if_neg c, if_neg c]
    simp only [Option.bind_some]
    rw [if_neg (by decide), if_neg (by decide), if_neg (by decide)]
    have e : IntKind.u64.wrap a = a := by rw [IntKind.wrap_u64]; omega
    rw [e, if_neg (by omega), RttSettles.w64 (by omega) (by omega)]; rfl

theorem RttSettles.smooth_ (x v : Int) (s : Bool) (hx : 0 ≤ x ∧ x ≤ 9007199254741000) (hv : 0 ≤ v ∧ v ≤ 9007199254741000) : rtt_Smooth.f x v s = some (x / 8) := by
  unfold rtt_Smooth.f; rw [RttSettles.within_ x v s hx hv]; rfl

theorem RttSettles.vary_ (x v : Int) (s : Bool) (hx : 0 ≤ x ∧ x ≤ 9007199254741000) (hv : 0 ≤ v ∧ v ≤ 9007199254741000) : rtt_Vary.f x v s = some (v / 4) := by
  unfold rtt_Vary.f; rw [RttSettles.within_ x v s hx hv]; rfl

theorem RttSettles.sample_ (x v r : Int) (s : Bool) (k : Nat) (hx : 0 ≤ x ∧ x ≤ 9007199254741000) (hv : 0 ≤ v ∧ v ≤ 9007199254741000) (hr : 1 ≤ r ∧ r ≤ 1125899906842624) :
    rtt_Sample.f (k + 1) x v s r = some (if s = true then (x + (r - x / 8), v + ((if r - x / 8 < 0 then -(r - x / 8) else r - x / 8) - v / 4), true) else (8 * r, 2 * r, true)) := by
  unfold rtt_Sample.f
  rw [RttSettles.within_ x v s hx hv, RttSettles.clamp_, if_neg (show ¬ 1125899906842624 < r by omega), if_neg (show ¬ r < 1 by omega)]
  simp only [Option.bind_some]
  rw [RttSettles.smooth_ x v s hx hv, RttSettles.vary_ x v s hx hv]
  simp only [Option.bind_some]
  rw [RttSettles.w64 (x := r - x / 8) (by omega) (by omega), RttSettles.abs_ (r - x / 8) k (by omega)]
  simp only [Option.bind_some]
  cases s
  · simp only [Bool.false_eq_true, if_false]
    rw [RttSettles.w64 (x := 8 * r) (by omega) (by omega), RttSettles.w64 (x := 2 * r) (by omega) (by omega)]
  · simp only [if_true]
    have hd : 0 ≤ (if r - x / 8 < 0 then -(r - x / 8) else r - x / 8) ∧ (if r - x / 8 < 0 then -(r - x / 8) else r - x / 8) ≤ 1125899906842625 := by split <;> omega
    generalize (if r - x / 8 < 0 then -(r - x / 8) else r - x / 8) = d at *
    rw [RttSettles.w64 (x := x + (r - x / 8)) (by omega) (by omega), RttSettles.w64 (x := d - v / 4) (by omega) (by omega), RttSettles.w64 (x := v + (d - v / 4)) (by omega) (by omega)]

theorem RttSettles.vary_step (r v : Int) (k : Nat) (hr : 1 ≤ r ∧ r ≤ 4294967296) (hv : 0 ≤ v ∧ v ≤ 8589934592) : rtt_Sample.f (k + 1) (8 * r) v true r = some (8 * r, v - v / 4, true) := by
  rw [RttSettles.sample_ (8 * r) v r true k (by omega) (by omega) (by omega)]
  have e : 8 * r / 8 = r := by omega
  rw [e, Int.sub_self]
  simp only [if_true]
  rw [if_neg (by omega)]
  congr 2
  · omega
  · congr 1; omega

/-- From the second round on: what comes down comes down by a fourth. -/
theorem RttSettles.loop_ (r : Int) (hr : 1 ≤ r ∧ r ≤ 4294967296) (d : Nat) : ∀ (k : Nat) (i v : Int) (n : Nat), i = (n : Int) + 1 → n + d = 119 → d + 5 ≤ k → 0 ≤ v → v ≤ 8589934592 → 4 ^ n * (v - 3) ≤ 3 ^ n * 8589934592 →
    leatlaw20_RttSettles.l0 k r i (8 * r) v true = some true := by
  induction d with
  | zero =>
    intro k i v n hi hn hk hv0 hv1 hp
    obtain rfl : n = 119 := by omega
    obtain ⟨k, rfl⟩ : ∃ m, k = m + 5 := ⟨k - 5, by omega⟩
    have hv3 : v ≤ 3 := by
      by_cases h : v ≤ 3
      · exact h
      · exfalso
        have h1 : (4 : Int) ^ 119 * 1 ≤ 4 ^ 119 * (v - 3) := Int.mul_le_mul_of_nonneg_left (by omega) (by decide)
        have h2 : (3 : Int) ^ 119 * 8589934592 < 4 ^ 119 * 1 := by decide
        omega
    rw [leatlaw20_RttSettles.l0, if_neg (by omega), if_pos hv3, RttSettles.vary_ (8 * r) v true (by omega) (by omega)]
    simp only [Option.bind_some]
    rw [if_pos (by omega)]
    have hw : leatlaw20_works.f (k + 4) = some true := by kernel_rfl
    rw [hw]; rfl
  | succ d ih =>
    intro k i v n hi hn hk hv0 hv1 hp
    obtain ⟨k, rfl⟩ : ∃ m, k = m + 2 := ⟨k - 2, by omega⟩
    rw [leatlaw20_RttSettles.l0, if_pos (by omega), RttSettles.vary_step r v k hr ⟨hv0, hv1⟩]
    simp only [Option.bind_some]
    rw [RttSettles.smooth_ (8 * r) (v - v / 4) true (by omega) (by omega)]
    simp only [Option.bind_some]
    rw [if_pos (by omega), if_pos trivial, if_neg (by omega), RttSettles.w64 (by omega) (by omega)]
    refine ih (k + 1) (i + 1) (v - v / 4) (n + 1) (by omega) (by omega) (by omega) (by omega) (by omega) ?_
    have h1 : 4 * (v - v / 4 - 3) ≤ 3 * (v - 3) := by omega
    have h2 : (4 : Int) ^ n * (4 * (v - v / 4 - 3)) ≤ 4 ^ n * (3 * (v - 3)) := Int.mul_le_mul_of_nonneg_left h1 (Int.le_of_lt (Int.pow_pos (by decide)))
    have h3 : (4 : Int) ^ (n + 1) * (v - v / 4 - 3) = 4 ^ n * (4 * (v - v / 4 - 3)) := by rw [Int.pow_succ, Int.mul_assoc]
    have h4 : (4 : Int) ^ n * (3 * (v - 3)) = 3 * (4 ^ n * (v - 3)) := by rw [Int.mul_left_comm]
    have h5 : (3 : Int) ^ (n + 1) * 8589934592 = 3 * (3 ^ n * 8589934592) := by rw [Int.pow_succ, Int.mul_comm (3 ^ n) 3, Int.mul_assoc]
    omega

theorem RttSettles : leatlaw20_RttSettles.Pure := by
  intro x wx
  have hx : 0 ≤ x ∧ x ≤ 4294967295 := by
    simp only [Lit.wf, IntKind.min, IntKind.max, IntKind.signed, IntKind.bits, Bool.and_eq_true] at wx
    simpa using wx
  refine ⟨200, ?_⟩
  unfold leatlaw20_RttSettles.f
  rw [RttSettles.w64 (x := x) (by omega) (by omega), RttSettles.w64 (x := x + 1) (by omega) (by omega)]
  rw [leatlaw20_RttSettles.l0, if_pos (by omega), RttSettles.sample_ 0 0 (x + 1) false 198 (by omega) (by omega) (by omega)]
  simp only [Option.bind_some, Bool.false_eq_true, if_false]
  rw [RttSettles.smooth_ (8 * (x + 1)) (2 * (x + 1)) true (by omega) (by omega)]
  simp only [Option.bind_some]
  rw [if_pos (by omega)]
  exact RttSettles.loop_ (x + 1) (by omega) 119 199 _ (2 * (x + 1)) 0 (by unfold wrap64; omega) (by omega) (by omega) (by omega) (by omega) (by omega)

end Go.Proofs.Ytdfbnbhhjhfdaaa.Pure
