/- A header's bytes, and a header out of bytes. Conditions: none. -/
import Derived.Test.YtjgpdbkkpomhjaaXE8
import Derived.Test.YtjgpdbkkpomhjaaXK
namespace Go.Proofs.YtjgpdbkkpomhjaaX
set_option maxRecDepth 100000
theorem rngAll {p : Int → Int → Bool} (m n : Nat) (h : ∀ a, a < m → ∀ b, b < n → p (a : Int) (b : Int) = true) {x y : Int} (hx : 0 ≤ x ∧ x < (m : Int)) (hy : 0 ≤ y ∧ y < (n : Int)) : p x y = true := by
  have := h x.toNat (by omega) y.toNat (by omega)
  rwa [show ((x.toNat : Nat) : Int) = x by omega, show ((y.toNat : Nat) : Int) = y by omega] at this
theorem eb12 {a b : Int} (ha : 0 ≤ a ∧ a ≤ 15) (hb : 0 ≤ b ∧ b ≤ 7) : bshr .u8 (bor .u8 (bshl .u8 a 4) (bshr .u8 b 2)) 4 = a ∧ band .u8 (bor .u8 (bshl .u8 a 4) (bshr .u8 b 2)) 1 = b / 4 ∧ band .u8 (bshr .u8 (bor .u8 (bshl .u8 a 4) (bshr .u8 b 2)) 1) 7 = 0 ∧ 0 ≤ bor .u8 (bshl .u8 a 4) (bshr .u8 b 2) ∧ bor .u8 (bshl .u8 a 4) (bshr .u8 b 2) ≤ 255 :=
  of_decide_eq_true (rngAll (p := fun a b => decide (bshr .u8 (bor .u8 (bshl .u8 a 4) (bshr .u8 b 2)) 4 = a ∧ band .u8 (bor .u8 (bshl .u8 a 4) (bshr .u8 b 2)) 1 = b / 4 ∧ band .u8 (bshr .u8 (bor .u8 (bshl .u8 a 4) (bshr .u8 b 2)) 1) 7 = 0 ∧ 0 ≤ bor .u8 (bshl .u8 a 4) (bshr .u8 b 2) ∧ bor .u8 (bshl .u8 a 4) (bshr .u8 b 2) ≤ 255)) 16 8 (by decide +kernel) (by omega) (by omega))
theorem eb13 {b f : Int} (hb : 0 ≤ b ∧ b ≤ 7) (hf : 0 ≤ f ∧ f ≤ 63) : bshr .u8 (bor .u8 (bshl .u8 b 6) f) 6 = b % 4 ∧ band .u8 (bor .u8 (bshl .u8 b 6) f) 63 = f ∧ 0 ≤ bor .u8 (bshl .u8 b 6) f ∧ bor .u8 (bshl .u8 b 6) f ≤ 255 :=
  of_decide_eq_true (rngAll (p := fun b f => decide (bshr .u8 (bor .u8 (bshl .u8 b 6) f) 6 = b % 4 ∧ band .u8 (bor .u8 (bshl .u8 b 6) f) 63 = f ∧ 0 ≤ bor .u8 (bshl .u8 b 6) f ∧ bor .u8 (bshl .u8 b 6) f ≤ 255)) 8 64 (by decide +kernel) (by omega) (by omega))
theorem eb5 {b : Int} (hb : 0 ≤ b ∧ b ≤ 7) : bor .u8 (bshl .u8 (b / 4) 2) (b % 4) = b :=
  of_decide_eq_true (rngAll (p := fun b _ => decide (bor .u8 (bshl .u8 (b / 4) 2) (b % 4) = b)) 8 1 (by decide +kernel) (x := b) (y := 0) (by omega) (by omega))
/-- A byte's parts. -/
theorem db12 {x : Int} (hx : 0 ≤ x ∧ x ≤ 255) : 0 ≤ bshr .u8 x 4 ∧ bshr .u8 x 4 ≤ 15 ∧ 0 ≤ band .u8 x 1 ∧ band .u8 x 1 ≤ 1 ∧ (band .u8 (bshr .u8 x 1) 7 = 0 → bor .u8 (bshl .u8 (bshr .u8 x 4) 4) (band .u8 x 1) = x) :=
  of_decide_eq_true (byteAll (p := fun x => decide (0 ≤ bshr .u8 x 4 ∧ bshr .u8 x 4 ≤ 15 ∧ 0 ≤ band .u8 x 1 ∧ band .u8 x 1 ≤ 1 ∧ (band .u8 (bshr .u8 x 1) 7 = 0 → bor .u8 (bshl .u8 (bshr .u8 x 4) 4) (band .u8 x 1) = x))) (by decide +kernel) hx)
theorem db13 {y : Int} (hy : 0 ≤ y ∧ y ≤ 255) : 0 ≤ bshr .u8 y 6 ∧ bshr .u8 y 6 ≤ 3 ∧ 0 ≤ band .u8 y 63 ∧ band .u8 y 63 ≤ 63 ∧ bor .u8 (bshl .u8 (bshr .u8 y 6) 6) (band .u8 y 63) = y :=
  of_decide_eq_true (byteAll (p := fun y => decide (0 ≤ bshr .u8 y 6 ∧ bshr .u8 y 6 ≤ 3 ∧ 0 ≤ band .u8 y 63 ∧ band .u8 y 63 ≤ 63 ∧ bor .u8 (bshl .u8 (bshr .u8 y 6) 6) (band .u8 y 63) = y)) (by decide +kernel) hy)
theorem dmn {m n : Int} (hm : 0 ≤ m ∧ m ≤ 1) (hn : 0 ≤ n ∧ n ≤ 3) : bshr .u8 (bor .u8 (bshl .u8 m 2) n) 2 = m ∧ bshl .u8 (bor .u8 (bshl .u8 m 2) n) 6 = bshl .u8 n 6 ∧ 0 ≤ bor .u8 (bshl .u8 m 2) n ∧ bor .u8 (bshl .u8 m 2) n ≤ 7 :=
  of_decide_eq_true (rngAll (p := fun m n => decide (bshr .u8 (bor .u8 (bshl .u8 m 2) n) 2 = m ∧ bshl .u8 (bor .u8 (bshl .u8 m 2) n) 6 = bshl .u8 n 6 ∧ 0 ≤ bor .u8 (bshl .u8 m 2) n ∧ bor .u8 (bshl .u8 m 2) n ≤ 7)) 2 4 (by decide +kernel) (by omega) (by omega))
theorem u8r (x : Int) : 0 ≤ IntKind.u8.wrap x ∧ IntKind.u8.wrap x ≤ 255 := by rw [u8_wrap]; omega
theorem hdr16 {x : Int} (hx : 0 ≤ x ∧ x ≤ 65535) : bor .u16 (bshl .u16 (IntKind.u16.wrap (IntKind.u8.wrap (bshr .u32 (IntKind.u32.wrap x) 8))) 8) (IntKind.u16.wrap (IntKind.u8.wrap (bshr .u32 (IntKind.u32.wrap x) 0))) = x := by
  rw [or16 (u8r _) (u8r _), wu32 (x := x) (by omega) (by omega), sh8 8 hx.1, sh8 0 hx.1]
  simp only [Int.reducePow]
  omega
theorem hdr32 {x : Int} (hx : 0 ≤ x ∧ x ≤ 4294967295) : bor .u32 (bshl .u32 (IntKind.u32.wrap (bor .u16 (bshl .u16 (IntKind.u16.wrap (IntKind.u8.wrap (bshr .u32 x 24))) 8) (IntKind.u16.wrap (IntKind.u8.wrap (bshr .u32 x 16))))) 16) (IntKind.u32.wrap (bor .u16 (bshl .u16 (IntKind.u16.wrap (IntKind.u8.wrap (bshr .u32 x 8))) 8) (IntKind.u16.wrap (IntKind.u8.wrap (bshr .u32 x 0))))) = x := by
  have r := u8r
  have a1 := r (bshr .u32 x 24)
  have a2 := r (bshr .u32 x 16)
  have a3 := r (bshr .u32 x 8)
  have a4 := r (bshr .u32 x 0)
  rw [or16 a1 a2, or16 a3 a4, or32 (by omega) (by omega), sh8 24 hx.1, sh8 16 hx.1, sh8 8 hx.1, sh8 0 hx.1]
  simp only [Int.reducePow]
  omega
/-- Two bytes, told as a number and laid again. -/
theorem lay16 {x y : Int} (hx : 0 ≤ x ∧ x ≤ 255) (hy : 0 ≤ y ∧ y ≤ 255) : IntKind.u8.wrap (bshr .u32 (IntKind.u32.wrap (bor .u16 (bshl .u16 (IntKind.u16.wrap x) 8) (IntKind.u16.wrap y))) 8) = x ∧ IntKind.u8.wrap (bshr .u32 (IntKind.u32.wrap (bor .u16 (bshl .u16 (IntKind.u16.wrap x) 8) (IntKind.u16.wrap y))) 0) = y := by
  rw [or16 hx hy, wu32 (x := x * 256 + y) (by omega) (by omega), sh8 8 (by omega), sh8 0 (by omega)]
  simp only [Int.reducePow]
  omega
theorem lay32 {x y z v : Int} (hx : 0 ≤ x ∧ x ≤ 255) (hy : 0 ≤ y ∧ y ≤ 255) (hz : 0 ≤ z ∧ z ≤ 255) (hv : 0 ≤ v ∧ v ≤ 255) (q : Int) (hq : q = bor .u32 (bshl .u32 (IntKind.u32.wrap (bor .u16 (bshl .u16 (IntKind.u16.wrap x) 8) (IntKind.u16.wrap y))) 16) (IntKind.u32.wrap (bor .u16 (bshl .u16 (IntKind.u16.wrap z) 8) (IntKind.u16.wrap v)))) :
    IntKind.u8.wrap (bshr .u32 q 24) = x ∧ IntKind.u8.wrap (bshr .u32 q 16) = y ∧ IntKind.u8.wrap (bshr .u32 q 8) = z ∧ IntKind.u8.wrap (bshr .u32 q 0) = v := by
  rw [or16 hx hy, or16 hz hv, or32 (by omega) (by omega)] at hq
  rw [sh8 24 (by omega), sh8 16 (by omega), sh8 8 (by omega), sh8 0 (by omega)]
  simp only [Int.reducePow]
  omega
end Go.Proofs.YtjgpdbkkpomhjaaX
