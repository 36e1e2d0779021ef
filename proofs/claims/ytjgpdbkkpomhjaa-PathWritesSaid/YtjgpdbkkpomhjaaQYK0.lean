/- A part of a law's proof. Conditions: none. -/
import Derived.Test.YtjgpdbkkpomhjaaQYX
namespace Go.Proofs.YtjgpdbkkpomhjaaX
open Go.RowKit
set_option linter.unusedVariables false
theorem i64_wrap (x : Int) : IntKind.i64.wrap x = (x + 9223372036854775808) % 18446744073709551616 - 9223372036854775808 := by
  simp only [IntKind.wrap, IntKind.bits, IntKind.signed]
  simp
  omega
def dif (a b : Int) : Int := (a - b + 2147483648) % 4294967296 - 2147483648
theorem dif_range (a b : Int) : -2147483648 ≤ dif a b ∧ dif a b ≤ 2147483647 := by unfold dif; omega
theorem dif_shift (a b : Int) : bshr .i64 (IntKind.i64.wrap (bshl .u64 (IntKind.u64.wrap (a - b)) 32)) 32 = dif a b := by
  unfold bshr bshl dif
  rw [show min 32 IntKind.i64.bits = 32 from rfl, show min 32 IntKind.u64.bits = 32 from rfl, show (2 : Int) ^ 32 = 4294967296 by decide, Int.fdiv_eq_ediv_of_nonneg _ (by decide), i64_wrap, u64_wrap, u64_wrap]
  omega
theorem dif_u64 (a b : Int) : dif a (IntKind.u64.wrap b) = dif a b := by unfold dif; rw [u64_wrap]; omega
def farL (n : Int) : Int := max (-4611686018427387904) (min n 4611686018427387904)
def unw (last x : Int) : Int := farL last + dif x (farL last)
theorem farL_range (n : Int) : -4611686018427387904 ≤ farL n ∧ farL n ≤ 4611686018427387904 := by unfold farL; omega
theorem pow_step (i : Nat) : (2 : Int) ^ (i + 1) = 2 ^ i * 2 := Int.pow_succ 2 i
theorem pow_le {i : Nat} (h : i ≤ 32) : 1 ≤ (2 : Int) ^ i ∧ (2 : Int) ^ i ≤ 4294967296 := by
  have h1 : (2 : Nat) ^ i ≤ 2 ^ 32 := Nat.pow_le_pow_right (by decide) h
  have h2 : 1 ≤ (2 : Nat) ^ i := Nat.one_le_two_pow
  have e : (2 : Int) ^ i = ((2 ^ i : Nat) : Int) := by push_cast; rfl
  rw [e]
  omega
theorem tm32 (l : Int) : (∃ q, l = 4294967296 * q + Int.tmod l 4294967296) ∧ -4294967296 < Int.tmod l 4294967296 ∧ Int.tmod l 4294967296 < 4294967296 := by
  refine ⟨⟨Int.tdiv l 4294967296, ?_⟩, ?_, ?_⟩
  · have := Int.tmod_add_mul_tdiv l 4294967296
    omega
  · rcases Int.le_total 0 l with h | h
    · rw [Int.tmod_eq_emod_of_nonneg h]; omega
    · have h2 : Int.tmod l 4294967296 = -(Int.tmod (-l) 4294967296) := by rw [Int.neg_tmod, Int.neg_neg]
      rw [h2, Int.tmod_eq_emod_of_nonneg (by omega)]; omega
  · exact Int.tmod_lt_of_pos _ (by decide)
end Go.Proofs.YtjgpdbkkpomhjaaX
