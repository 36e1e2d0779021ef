/- IP packets: what they are told by. Plain definitions and laws. Conditions: none. -/
import Derived.Test.YtjgpdbkkpomhjaaYG1
import Derived.Test.YtjgpdbkkpomhjaaYIF
import Derived.Test.YtjgpdbkkpomhjaaYL
namespace Go.Proofs.YtjgpdbkkpomhjaaX
open Go.RowKit
set_option linter.unusedVariables false
/-- A header's numbers: tos, ttl, proto, id, frag, from, to. -/
structure Ih where
  x0 : Int
  x1 : Int
  x2 : Int
  x3 : Int
  x4 : Int
  x5 : Int
  x6 : Int
  x7 : Int
  x8 : Int
  x9 : Int
  y0 : Int
  y1 : Int
  y2 : Int
structure Ih.ok (h : Ih) : Prop where
  h0 : 0 ≤ h.x0 ∧ h.x0 ≤ 255
  h1 : 0 ≤ h.x1 ∧ h.x1 ≤ 255
  h2 : 0 ≤ h.x2 ∧ h.x2 ≤ 255
  h3 : 0 ≤ h.x3 ∧ h.x3 ≤ 65535
  h4 : 0 ≤ h.x4 ∧ h.x4 ≤ 65535
  h5 : 0 ≤ h.x5 ∧ h.x5 ≤ 255
  h6 : 0 ≤ h.x6 ∧ h.x6 ≤ 255
  h7 : 0 ≤ h.x7 ∧ h.x7 ≤ 255
  h8 : 0 ≤ h.x8 ∧ h.x8 ≤ 255
  h9 : 0 ≤ h.x9 ∧ h.x9 ≤ 255
  k0 : 0 ≤ h.y0 ∧ h.y0 ≤ 255
  k1 : 0 ≤ h.y1 ∧ h.y1 ≤ 255
  k2 : 0 ≤ h.y2 ∧ h.y2 ≤ 255
def ih0 : Ih := ⟨0, 0, 0, 0, 0, 0, 0, 0, 0, 0, 0, 0, 0⟩
theorem ih0_ok : ih0.ok := by constructor <;> decide
/-- A header's bytes, with a length and any checksum. -/
def rawI (h : Ih) (n k : Int) : List Int := [69, h.x0, n / 256, n % 256, h.x3 / 256, h.x3 % 256, h.x4 / 256, h.x4 % 256, h.x1, h.x2, k / 256, k % 256, h.x5, h.x6, h.x7, h.x8, h.x9, h.y0, h.y1, h.y2]
theorem rawI_bytes {h : Ih} (hh : h.ok) {n k : Int} (hn : 0 ≤ n ∧ n ≤ 65535) (hk : 0 ≤ k ∧ k ≤ 65535) : isBytes (rawI h n k) := by
  obtain ⟨h0, h1, h2, h3, h4, h5, h6, h7, h8, h9, k0, k1, k2⟩ := hh
  intro x hx
  simp only [rawI, List.mem_cons, List.not_mem_nil, or_false] at hx
  rcases hx with rfl | rfl | rfl | rfl | rfl | rfl | rfl | rfl | rfl | rfl | rfl | rfl | rfl | rfl | rfl | rfl | rfl | rfl | rfl | rfl <;> omega
/-- A header's checksum. -/
def sumI (h : Ih) (n : Int) : Int := cks (rawI h n 0)
theorem sumI_range {h : Ih} (hh : h.ok) {n : Int} (hn : 0 ≤ n ∧ n ≤ 65535) : 0 ≤ sumI h n ∧ sumI h n ≤ 65535 := cks_bounds (rawI_bytes hh hn (by omega))
/-- What a packet is told by: its bytes, or an error. -/
def encI (h : Ih) (d : ByteArray) : List Int × Int :=
  if 65515 < d.size then ([], 4) else if 32768 ≤ h.x4 then ([], 5) else (rawI h (20 + (d.size : Int)) (sumI h (20 + (d.size : Int))) ++ bytesL d, 0)
theorem encI_long {h : Ih} {d : ByteArray} (hd : 65515 < d.size) : encI h d = ([], 4) := if_pos hd
theorem encI_form {h : Ih} {d : ByteArray} (hd : ¬ 65515 < d.size) (hf : 32768 ≤ h.x4) : encI h d = ([], 5) := by
  unfold encI; rw [if_neg hd, if_pos hf]
theorem encI_fine {h : Ih} {d : ByteArray} (hd : ¬ 65515 < d.size) (hf : ¬ 32768 ≤ h.x4) : encI h d = (rawI h (20 + (d.size : Int)) (sumI h (20 + (d.size : Int))) ++ bytesL d, 0) := by
  unfold encI; rw [if_neg hd, if_neg hf]
theorem encI_bytes {h : Ih} (hh : h.ok) (d : ByteArray) : isBytes (encI h d).1 := by
  intro x hx
  by_cases hd : 65515 < d.size
  · rw [encI_long hd] at hx; simp at hx
  · by_cases hf : 32768 ≤ h.x4
    · rw [encI_form hd hf] at hx; simp at hx
    · rw [encI_fine hd hf] at hx
      rcases List.mem_append.1 hx with h1 | h1
      · exact rawI_bytes hh (by omega) (sumI_range hh (by omega)) x h1
      · exact bytesL_range _ x h1
theorem encI_len (h : Ih) (d : ByteArray) : (encI h d).1.length ≤ 20 + d.size := by
  by_cases hd : 65515 < d.size
  · rw [encI_long hd]; simp
  · by_cases hf : 32768 ≤ h.x4
    · rw [encI_form hd hf]; simp
    · rw [encI_fine hd hf, List.length_append, bytesL_length]; simp [rawI]
theorem hiI {n : Int} (h : 0 ≤ n ∧ n ≤ 65535) : IntKind.u8.wrap (bshr .u16 n 8) = n / 256 := by
  rw [shr_nn h.1, show (2 : Int) ^ min 8 IntKind.u16.bits = 256 by decide, wu8 (by omega) (by omega)]
theorem loI {n : Int} : IntKind.u8.wrap n = n % 256 := u8_wrap n
/-- The checksum's two bytes, written where it stands. -/
theorem filled_raw {h : Ih} (hh : h.ok) {n : Int} (hn : 0 ≤ n ∧ n ≤ 65535) : filled (rawI h n 0) 10 = rawI h n (sumI h n) := by
  have hs := sumI_range hh hn
  have e : ((rawI h n 0).set (10 : Int).toNat 0).set ((10 : Int) + 1).toNat 0 = rawI h n 0 := rfl
  unfold filled
  rw [e]
  show ((rawI h n 0).set 10 (IntKind.u8.wrap (bshr .u16 (sumI h n) 8))).set 11 (IntKind.u8.wrap (sumI h n)) = _
  rw [hiI hs, loI]
  rfl
theorem and_pow (m k : Nat) : m &&& 2 ^ k = m / 2 ^ k % 2 * 2 ^ k := by
  apply Nat.eq_of_testBit_eq
  intro i
  have h1 : (m / 2 ^ k % 2 * 2 ^ k).testBit i = (decide (k ≤ i) && (m / 2 ^ k % 2).testBit (i - k)) := by rw [← Nat.shiftLeft_eq, Nat.testBit_shiftLeft]
  have h2 := Nat.testBit_mod_two_pow (m / 2 ^ k) 1 (i - k)
  rw [Nat.pow_one] at h2
  rw [Nat.testBit_and, Nat.testBit_two_pow, h1, h2, Nat.testBit_div_two_pow]
  by_cases e : k = i
  · subst e; simp
  · by_cases hk : k ≤ i
    · simp [e, hk]; omega
    · simp [e, hk]
/-- One bit of a number of 16. -/
theorem bit16 {n : Int} (h : 0 ≤ n ∧ n ≤ 65535) (k : Nat) (hk : k < 16) : band .u16 n ((2 ^ k : Nat) : Int) = n / 2 ^ k % 2 * 2 ^ k := by
  obtain ⟨m, rfl⟩ := Int.eq_ofNat_of_zero_le h.1
  have h2 : 2 ^ k < 2 ^ 16 := Nat.pow_lt_pow_right (by decide) hk
  rw [band_nat rfl (by show m < 2 ^ 16; omega) h2, and_pow]
  push_cast
  rfl
theorem bit_none {n : Int} (h : 0 ≤ n ∧ n ≤ 65535) : band .u16 n 32768 = n / 32768 * 32768 := by
  have := bit16 h 15 (by decide)
  rw [show ((2 ^ 15 : Nat) : Int) = 32768 by decide, show (2 : Int) ^ 15 = 32768 by decide] at this
  omega
theorem bit_whole {n : Int} (h : 0 ≤ n ∧ n ≤ 65535) : band .u16 n 16384 = n / 16384 % 2 * 16384 := by
  have := bit16 h 14 (by decide)
  rwa [show ((2 ^ 14 : Nat) : Int) = 16384 by decide, show (2 : Int) ^ 14 = 16384 by decide] at this
theorem bit_more {n : Int} (h : 0 ≤ n ∧ n ≤ 65535) : band .u16 n 8192 = n / 8192 % 2 * 8192 := by
  have := bit16 h 13 (by decide)
  rwa [show ((2 ^ 13 : Nat) : Int) = 8192 by decide, show (2 : Int) ^ 13 = 8192 by decide] at this
theorem low13 {n : Int} (h : 0 ≤ n ∧ n ≤ 65535) : band .u16 n 8191 = n % 8192 := by
  have := band_low (k := .u16) (m := 13) rfl h.1 (by show n < 65536; omega) (by decide)
  rwa [show ((2 ^ 13 - 1 : Nat) : Int) = 8191 by decide, show (2 : Int) ^ 13 = 8192 by decide] at this
theorem or_more {n : Int} (h : 0 ≤ n ∧ n < 8192) : bor .u16 n 8192 = n + 8192 := by
  obtain ⟨m, rfl⟩ := Int.eq_ofNat_of_zero_le h.1
  have := bor_nat (k := .u16) (a := m) (b := 8192) rfl (by show m < 65536; omega) (by decide)
  rw [show ((8192 : Nat) : Int) = 8192 by decide] at this
  rw [this, Nat.or_comm, ← Nat.two_pow_add_eq_or_of_lt (i := 13) (b := m) (by omega) 1]
  rw [Nat.mul_one, show (2 : Nat) ^ 13 = 8192 by decide]
  omega
theorem or_none {n : Int} (h : 0 ≤ n ∧ n ≤ 65535) : bor .u16 n 0 = n := by
  obtain ⟨m, rfl⟩ := Int.eq_ofNat_of_zero_le h.1
  have := bor_nat (k := .u16) (a := m) (b := 0) rfl (by show m < 65536; omega) (by decide)
  rw [show ((0 : Nat) : Int) = 0 by decide] at this
  rw [this, Nat.or_zero]
end Go.Proofs.YtjgpdbkkpomhjaaX
