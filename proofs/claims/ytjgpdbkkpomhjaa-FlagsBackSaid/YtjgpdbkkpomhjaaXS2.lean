/- Numbers laid in bytes. Conditions: none. -/
import Derived.Test.YtjgpdbkkpomhjaaXE6
namespace Go.Proofs.YtjgpdbkkpomhjaaX
theorem cut2 {b : List Int} (i : Nat) (h : i + 2 ≤ b.length) : numB ((b.take (i + 2)).drop i) = b.getD i 0 * 256 + b.getD (i + 1) 0 := by
  have e : (b.take (i + 2)).drop i = [b.getD i 0, b.getD (i + 1) 0] := by
    have h0 : b.getD i 0 = b[i]'(by omega) := by simp [List.getD_eq_getElem?_getD, List.getElem?_eq_getElem (show i < b.length by omega)]
    have h1 : b.getD (i + 1) 0 = b[i + 1]'(by omega) := by simp [List.getD_eq_getElem?_getD, List.getElem?_eq_getElem (show i + 1 < b.length by omega)]
    rw [h0, h1]
    apply List.ext_getElem
    · simp; omega
    · intro j p q
      have : j = 0 ∨ j = 1 := by simp at q; omega
      rcases this with rfl | rfl <;> simp
  rw [e]
  simp [numB]
theorem cut4 {b : List Int} (i : Nat) (h : i + 4 ≤ b.length) : numB ((b.take (i + 4)).drop i) = (b.getD i 0 * 256 + b.getD (i + 1) 0) * 65536 + (b.getD (i + 2) 0 * 256 + b.getD (i + 3) 0) := by
  have gd : ∀ j, (hj : j < b.length) → b.getD j 0 = b[j] := fun j hj => by simp [List.getD_eq_getElem?_getD, List.getElem?_eq_getElem hj]
  have e : (b.take (i + 4)).drop i = [b.getD i 0, b.getD (i + 1) 0, b.getD (i + 2) 0, b.getD (i + 3) 0] := by
    rw [gd i (by omega), gd (i + 1) (by omega), gd (i + 2) (by omega), gd (i + 3) (by omega)]
    apply List.ext_getElem
    · simp; omega
    · intro j p q
      have : j = 0 ∨ j = 1 ∨ j = 2 ∨ j = 3 := by simp at q; omega
      rcases this with rfl | rfl | rfl | rfl <;> simp
  rw [e]
  simp [numB]
  omega
theorem or16 {x y : Int} (hx : 0 ≤ x ∧ x ≤ 255) (hy : 0 ≤ y ∧ y ≤ 255) : bor .u16 (bshl .u16 (IntKind.u16.wrap x) 8) (IntKind.u16.wrap y) = x * 256 + y := by
  rw [wu16 (x := x) (by omega) (by omega), wu16 (x := y) (by omega) (by omega)]
  have e : bshl .u16 x 8 = x * 256 := by unfold bshl; exact wu16 (by show 0 ≤ x * 256; omega) (by show x * 256 ≤ _; omega)
  rw [e]
  obtain ⟨a, rfl⟩ := Int.eq_ofNat_of_zero_le hx.1
  obtain ⟨b, rfl⟩ := Int.eq_ofNat_of_zero_le hy.1
  have h := Nat.two_pow_add_eq_or_of_lt (i := 8) (b := b) (by omega) a
  rw [show (a : Int) * 256 = ((2 ^ 8 * a : Nat) : Int) by omega, bor_nat rfl (by show _ < 2 ^ 16; omega) (by show _ < 2 ^ 16; omega), ← h]
  omega
theorem or32 {x y : Int} (hx : 0 ≤ x ∧ x ≤ 65535) (hy : 0 ≤ y ∧ y ≤ 65535) : bor .u32 (bshl .u32 (IntKind.u32.wrap x) 16) (IntKind.u32.wrap y) = x * 65536 + y := by
  rw [wu32 (x := x) (by omega) (by omega), wu32 (x := y) (by omega) (by omega)]
  have e : bshl .u32 x 16 = x * 65536 := by unfold bshl; exact wu32 (by show 0 ≤ x * 65536; omega) (by show x * 65536 ≤ _; omega)
  rw [e]
  obtain ⟨a, rfl⟩ := Int.eq_ofNat_of_zero_le hx.1
  obtain ⟨b, rfl⟩ := Int.eq_ofNat_of_zero_le hy.1
  have h := Nat.two_pow_add_eq_or_of_lt (i := 16) (b := b) (by omega) a
  rw [show (a : Int) * 65536 = ((2 ^ 16 * a : Nat) : Int) by omega, bor_nat rfl (by show _ < 2 ^ 32; omega) (by show _ < 2 ^ 32; omega), ← h]
  omega
theorem byteAll {p : Int → Bool} (h : ∀ n : Nat, n < 256 → p (n : Int) = true) {x : Int} (hx : 0 ≤ x ∧ x ≤ 255) : p x = true := by
  have := h x.toNat (by omega)
  rwa [show ((x.toNat : Nat) : Int) = x by omega] at this
theorem hi4 {x : Int} (hx : 0 ≤ x ∧ x ≤ 255) : bshr .u8 x 4 = IntKind.u8.wrap (Int.tdiv x 16) := of_decide_eq_true (byteAll (p := fun x => decide (bshr .u8 x 4 = IntKind.u8.wrap (Int.tdiv x 16))) (by decide +kernel) hx)
theorem lo6 {x : Int} (hx : 0 ≤ x ∧ x ≤ 255) : band .u8 x 63 = Int.tmod x 64 := of_decide_eq_true (byteAll (p := fun x => decide (band .u8 x 63 = Int.tmod x 64)) (by decide +kernel) hx)
theorem lo1 {x : Int} (hx : 0 ≤ x ∧ x ≤ 255) : bshl .u8 (band .u8 x 1) 2 = IntKind.u8.wrap (Int.tmod x 2 * 4) ∧ (IntKind.u8.wrap (Int.tmod x 2 * 4) = 0 ∨ IntKind.u8.wrap (Int.tmod x 2 * 4) = 4) := of_decide_eq_true (byteAll (p := fun x => decide (bshl .u8 (band .u8 x 1) 2 = IntKind.u8.wrap (Int.tmod x 2 * 4) ∧ (IntKind.u8.wrap (Int.tmod x 2 * 4) = 0 ∨ IntKind.u8.wrap (Int.tmod x 2 * 4) = 4))) (by decide +kernel) hx)
theorem hi2 {x : Int} (hx : 0 ≤ x ∧ x ≤ 255) : bshr .u8 x 6 = IntKind.u8.wrap (Int.tdiv x 64) ∧ 0 ≤ IntKind.u8.wrap (Int.tdiv x 64) ∧ IntKind.u8.wrap (Int.tdiv x 64) ≤ 3 := of_decide_eq_true (byteAll (p := fun x => decide (bshr .u8 x 6 = IntKind.u8.wrap (Int.tdiv x 64) ∧ 0 ≤ IntKind.u8.wrap (Int.tdiv x 64) ∧ IntKind.u8.wrap (Int.tdiv x 64) ≤ 3)) (by decide +kernel) hx)
theorem ace2 {x y : Int} (hx : 0 ≤ x ∧ x ≤ 255) (hy : 0 ≤ y ∧ y ≤ 255) : bor .u8 (bshl .u8 (band .u8 x 1) 2) (bshr .u8 y 6) = IntKind.u8.wrap (IntKind.u8.wrap (Int.tmod x 2 * 4) + IntKind.u8.wrap (Int.tdiv y 64)) := by
  obtain ⟨e1, h1⟩ := lo1 hx
  obtain ⟨e2, h2, h3⟩ := hi2 hy
  rw [e1, e2]
  generalize IntKind.u8.wrap (Int.tmod x 2 * 4) = m at *
  generalize IntKind.u8.wrap (Int.tdiv y 64) = n at *
  have : n = 0 ∨ n = 1 ∨ n = 2 ∨ n = 3 := by omega
  rcases h1 with rfl | rfl <;> rcases this with rfl | rfl | rfl | rfl <;> decide
theorem badEq {x : Int} (hx : 0 ≤ x ∧ x ≤ 255) : (bshr .u8 x 4 < 5 ∨ band .u8 (bshr .u8 x 1) 7 ≠ 0) ↔ (IntKind.u8.wrap (Int.tdiv x 16) < 5 ∨ 1 < Int.tmod x 16) := of_decide_eq_true (byteAll (p := fun x => decide ((bshr .u8 x 4 < 5 ∨ band .u8 (bshr .u8 x 1) 7 ≠ 0) ↔ (IntKind.u8.wrap (Int.tdiv x 16) < 5 ∨ 1 < Int.tmod x 16))) (by decide +kernel) hx)
end Go.Proofs.YtjgpdbkkpomhjaaX
