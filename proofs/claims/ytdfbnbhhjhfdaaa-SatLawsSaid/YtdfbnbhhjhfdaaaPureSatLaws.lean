/- The pure statement of SatLaws: sums and products hang on no order; a number is its quotient times the divisor and what is left. -/
import Derived.Test.YtdfbnbhhjhfdaaaPSatLawsx1
import Derived.Lib.Mul64
import Derived.Laws.Bits64
namespace Go.Proofs.Ytdfbnbhhjhfdaaa.Pure
open Go.RowKit Go.Proofs.Ytdfbnbhhjhfdaaa.PSatLaws Go.Proofs.YtdfbnbhhjhfdaaaW.PrintWords Go.Proofs.YtdfbnbhhjhfdaaaW.PrintLast
open Go.Lib

theorem SatLaws.wrap_toInt (v : BitVec 64) : IntKind.i64.wrap (v.toNat : Int) = v.toInt := by
  have := v.isLt
  rw [IntKind.wrap_i64, BitVec.toInt_eq_toNat_cond]
  split <;> omega
theorem SatLaws.msb_ofInt {x : Int} (h0 : -9223372036854775808 ≤ x) (h1 : x ≤ 9223372036854775807) : (BitVec.ofInt 64 x).msb = decide (x < 0) := by
  rw [BitVec.msb_eq_toInt, BitVec.toInt_ofInt]
  have : x.bmod (2 ^ 64) = x := by
    rw [Int.bmod_def]; simp only [Nat.reducePow]; split <;> omega
  rw [this]
theorem SatLaws.neg_msb (v : BitVec 64) : IntKind.i64.wrap (v.toNat : Int) < 0 ↔ v.msb = true := by
  rw [SatLaws.wrap_toInt, BitVec.msb_eq_toInt]; simp
theorem SatLaws.bits_range (op : BinOp) (x y : Int) : -9223372036854775808 ≤ Go.bits op .i64 x y ∧ Go.bits op .i64 x y ≤ 9223372036854775807 := by
  unfold Go.bits
  show _ ≤ IntKind.i64.wrap _ ∧ IntKind.i64.wrap _ ≤ _
  rw [IntKind.wrap_i64]; omega
theorem SatLaws.and_neg {x y : Int} (hx : -9223372036854775808 ≤ x ∧ x ≤ 9223372036854775807) (hy : -9223372036854775808 ≤ y ∧ y ≤ 9223372036854775807) :
    Go.bits .and .i64 x y < 0 ↔ x < 0 ∧ y < 0 := by
  show IntKind.i64.wrap ((BitVec.ofInt 64 x &&& BitVec.ofInt 64 y).toNat : Int) < 0 ↔ _
  rw [SatLaws.neg_msb, BitVec.msb_and, SatLaws.msb_ofInt hx.1 hx.2, SatLaws.msb_ofInt hy.1 hy.2]; simp
theorem SatLaws.xor_neg {x y : Int} (hx : -9223372036854775808 ≤ x ∧ x ≤ 9223372036854775807) (hy : -9223372036854775808 ≤ y ∧ y ≤ 9223372036854775807) :
    Go.bits .xor .i64 x y < 0 ↔ ((x < 0 ∧ ¬ y < 0) ∨ (¬ x < 0 ∧ y < 0)) := by
  show IntKind.i64.wrap ((BitVec.ofInt 64 x ^^^ BitVec.ofInt 64 y).toNat : Int) < 0 ↔ _
  rw [SatLaws.neg_msb, BitVec.msb_xor, SatLaws.msb_ofInt hx.1 hx.2, SatLaws.msb_ofInt hy.1 hy.2]
  by_cases h1 : x < 0 <;> by_cases h2 : y < 0 <;> simp [h1, h2] <;> omega
theorem SatLaws.mask32 (z : Int) (h0 : 0 ≤ z) (h1 : z < 18446744073709551616) : Go.bits .and .u64 z 4294967295 = z % 4294967296 := by
  have h := bits_mask .u64 64 (by decide) (fun n h₀ h₁ => by rw [IntKind.wrap_u64]; omega) 32 (by decide) z h0 (by simpa using h1)
  simpa using h
theorem SatLaws.mul64 (X Y : Nat) (hX : X < 18446744073709551616) (hY : Y < 18446744073709551616) :
    bits_Mul64.f (X : Int) (Y : Int) = some (((X * Y / 18446744073709551616 : Nat) : Int), ((X * Y % 18446744073709551616 : Nat) : Int)) := by
  unfold bits_Mul64.f
  obtain ⟨m1, m2, m3, m4⟩ := mul64_hi X Y hX hY
  have b11 := half_mul_le (a := X / 4294967296) (b := Y / 4294967296) (by omega) (by omega)
  have b10 := half_mul_le (a := X / 4294967296) (b := Y % 4294967296) (by omega) (by omega)
  have b01 := half_mul_le (a := X % 4294967296) (b := Y / 4294967296) (by omega) (by omega)
  have b00 := half_mul_le (a := X % 4294967296) (b := Y % 4294967296) (by omega) (by omega)
  rw [SatLaws.mask32 (X : Int) (by omega) (by omega), SatLaws.mask32 (Y : Int) (by omega) (by omega)]
  have e11 : (X : Int) / 4294967296 * ((Y : Int) / 4294967296) = ((X / 4294967296 * (Y / 4294967296) : Nat) : Int) := by simp
  have e10 : (X : Int) / 4294967296 * ((Y : Int) % 4294967296) = ((X / 4294967296 * (Y % 4294967296) : Nat) : Int) := by simp
  have e01 : (X : Int) % 4294967296 * ((Y : Int) / 4294967296) = ((X % 4294967296 * (Y / 4294967296) : Nat) : Int) := by simp
  have e00 : (X : Int) % 4294967296 * ((Y : Int) % 4294967296) = ((X % 4294967296 * (Y % 4294967296) : Nat) : Int) := by simp
  have exy : (X : Int) * (Y : Int) = ((X * Y : Nat) : Int) := by simp
  rw [e11, e10, e01, e00, exy]
  generalize X / 4294967296 * (Y / 4294967296) = p11 at *
  generalize X / 4294967296 * (Y % 4294967296) = p10 at *
  generalize X % 4294967296 * (Y / 4294967296) = p01 at *
  generalize X % 4294967296 * (Y % 4294967296) = p00 at *
  generalize X * Y = p at *
  simp only [IntKind.wrap_u64]
  rw [SatLaws.mask32 _ (by omega) (by omega)]
  congr 2
  omega
theorem SatLaws.mul64_comm (x y : Int) (hx : 0 ≤ x ∧ x < 18446744073709551616) (hy : 0 ≤ y ∧ y < 18446744073709551616) : bits_Mul64.f x y = bits_Mul64.f y x := by
  obtain ⟨X, rfl⟩ := Int.eq_ofNat_of_zero_le hx.1
  obtain ⟨Y, rfl⟩ := Int.eq_ofNat_of_zero_le hy.1
  rw [SatLaws.mul64 X Y (by omega) (by omega), SatLaws.mul64 Y X (by omega) (by omega), Nat.mul_comm]
theorem SatLaws.range {a : Int} (h : (Lit.int .i64 a).wf = true) : -9223372036854775808 ≤ a ∧ a ≤ 9223372036854775807 := by
  simp only [Lit.wf, IntKind.min, IntKind.max, IntKind.signed, IntKind.bits, Bool.and_eq_true, decide_eq_true_eq, if_true] at h
  omega

theorem SatLaws.w64 {x : Int} (h0 : -9223372036854775808 ≤ x) (h1 : x ≤ 9223372036854775807) : wrap64 x = x := by
  unfold wrap64; omega

/-- What is known of a quotient and a rest. -/
theorem SatLaws.parts (a b : Int) (hb : b ≠ 0) : a = a.tdiv b * b + a.tmod b ∧ (0 ≤ a → 0 ≤ a.tmod b) ∧ (a ≤ 0 → a.tmod b ≤ 0) ∧ (a.tmod b).natAbs < b.natAbs ∧ (a.tdiv b).natAbs ≤ a.natAbs := by
  refine ⟨by have := Int.mul_tdiv_add_tmod a b; rw [Int.mul_comm]; omega, fun h => Int.tmod_nonneg b h, fun h => ?_, ?_, ?_⟩
  · have h2 := Int.tmod_nonneg b (show 0 ≤ -a by omega)
    rw [Int.neg_tmod] at h2; omega
  · rw [Int.natAbs_tmod]; exact Nat.mod_lt _ (by omega)
  · rw [Int.natAbs_tdiv]; exact Nat.div_le_self _ _

theorem SatLaws.wr (x : Int) : -9223372036854775808 ≤ wrap64 x ∧ wrap64 x ≤ 9223372036854775807 := by
  unfold wrap64; omega

/-- A number kept between the ends. -/
def SatLaws.keep (x : Int) : Int := if x < -9223372036854775808 then -9223372036854775808 else if 9223372036854775807 < x then 9223372036854775807 else x

theorem SatLaws.end_ (b : Bool) : sat_end.f b = some (if b = true then -9223372036854775808 else 9223372036854775807) := by
  cases b <;> rfl

theorem SatLaws.add_ (a b : Int) (ha : -9223372036854775808 ≤ a ∧ a ≤ 9223372036854775807) (hb : -9223372036854775808 ≤ b ∧ b ≤ 9223372036854775807) :
    sat_Add.f a b = some (SatLaws.keep (a + b)) := by
  unfold sat_Add.f
  have h1 := SatLaws.xor_neg ha (SatLaws.wr (a + b))
  have h2 := SatLaws.xor_neg hb (SatLaws.wr (a + b))
  have h3 := SatLaws.and_neg (SatLaws.bits_range .xor a (wrap64 (a + b))) (SatLaws.bits_range .xor b (wrap64 (a + b)))
  rw [h1, h2] at h3
  have hw : wrap64 (a + b) = if a + b < -9223372036854775808 then a + b + 18446744073709551616 else if 9223372036854775807 < a + b then a + b - 18446744073709551616 else a + b := by
    unfold wrap64; (repeat' split) <;> omega
  clear h1 h2
  unfold SatLaws.keep
  by_cases c1 : a + b < -9223372036854775808
  · rw [if_pos c1] at hw ⊢
    rw [if_pos (h3.mpr (by omega)), SatLaws.end_]; simp only [Option.bind_some]; rw [if_pos (by simp; omega)]
  · rw [if_neg c1] at hw ⊢
    by_cases c2 : 9223372036854775807 < a + b
    · rw [if_pos c2] at hw ⊢
      rw [if_pos (h3.mpr (by omega)), SatLaws.end_]; simp only [Option.bind_some]; rw [if_neg (by simp; omega)]
    · rw [if_neg c2] at hw ⊢
      rw [if_neg (fun h => by have := h3.mp h; omega), hw]


theorem SatLaws.size_ (a : Int) (ha : -9223372036854775808 ≤ a ∧ a ≤ 9223372036854775807) : sat_size.f a = some (a.natAbs : Int) := by
  unfold sat_size.f
  split
  · have e : IntKind.u64.wrap (-(IntKind.u64.wrap a)) = (a.natAbs : Int) := by rw [IntKind.wrap_u64, IntKind.wrap_u64]; omega
    rw [e]
  · have e : IntKind.u64.wrap a = (a.natAbs : Int) := by rw [IntKind.wrap_u64]; omega
    rw [e]

theorem SatLaws.mul_comm (a b : Int) (k : Nat) (ha : -9223372036854775808 ≤ a ∧ a ≤ 9223372036854775807) (hb : -9223372036854775808 ≤ b ∧ b ≤ 9223372036854775807) :
    sat_Mul.f k a b = sat_Mul.f k b a := by
  unfold sat_Mul.f
  rw [SatLaws.size_ a ha, SatLaws.size_ b hb]
  simp only [Option.bind_some]
  rw [SatLaws.mul64_comm (a.natAbs : Int) (b.natAbs : Int) (by omega) (by omega), show (decide (a < 0) != decide (b < 0)) = (decide (b < 0) != decide (a < 0)) by cases decide (a < 0) <;> cases decide (b < 0) <;> rfl]

theorem SatLaws.signed_some (n : Int) (b : Bool) (k : Nat) : ∃ r, sat_signed.f (k + 1) n b = some r := by
  unfold sat_signed.f
  have h : ∀ y, ∃ r, sat_signed.j0 (k + 1) n b y = some r := fun y => by
    simp only [sat_signed.j0]
    (repeat' split) <;> exact ⟨_, rfl⟩
  split <;> exact h _

theorem SatLaws.mul_some (a b : Int) (k : Nat) (ha : -9223372036854775808 ≤ a ∧ a ≤ 9223372036854775807) (hb : -9223372036854775808 ≤ b ∧ b ≤ 9223372036854775807) :
    ∃ r, sat_Mul.f (k + 1) a b = some r := by
  unfold sat_Mul.f
  rw [SatLaws.size_ a ha, SatLaws.size_ b hb]
  simp only [Option.bind_some]
  rw [SatLaws.mul64 a.natAbs b.natAbs (by omega) (by omega)]
  simp only [Option.bind_some]
  split
  · rw [SatLaws.end_]; exact ⟨_, rfl⟩
  · obtain ⟨r, h⟩ := SatLaws.signed_some ((a.natAbs * b.natAbs % 18446744073709551616 : Nat) : Int) (decide (a < 0) != decide (b < 0)) k
    rw [h]; exact ⟨_, rfl⟩

/-- Quotient and rest of a divisor above 0. -/
theorem SatLaws.div_ (a b : Int) (k : Nat) (ha : -9223372036854775808 ≤ a ∧ a ≤ 9223372036854775807) (hb : 0 < b ∧ b ≤ 9223372036854775807) :
    ∃ q r, sat_Div.f (k + 1) a b = some q ∧ sat_Mod.f a b = some r ∧ 0 ≤ r ∧ r < b ∧ q * b + r = a := by
  obtain ⟨e, p1, p2, p3, p4⟩ := SatLaws.parts a b (by omega)
  unfold sat_Div.f sat_Mod.f
  have l : (if a = -9223372036854775808 then sat_Div.j0 (k + 1) a b (b == -1) else sat_Div.j0 (k + 1) a b false) = sat_Div.j0 (k + 1) a b false := by
    rw [show (b == -1) = false by simp; omega]; split <;> rfl
  rw [if_neg (by omega), l]
  simp only [sat_Div.j0]
  rw [if_neg (by decide), if_neg (by omega), if_neg (show ¬ b ≤ 0 by omega), if_neg (show ¬ b = 0 by omega)]
  have hs : a < 0 → a.tdiv b ≤ 0 := fun h => by
    have h2 := Int.tdiv_nonneg (show 0 ≤ -a by omega) (show 0 ≤ b by omega)
    rw [Int.neg_tdiv] at h2; omega
  have w1 : wrap64 (a.tdiv b) = a.tdiv b := SatLaws.w64 (by omega) (by omega)
  have hd : decide (b < 0) = false := by simp; omega
  rw [w1, hd]
  by_cases h2 : a.tmod b = 0
  · rw [if_pos h2, if_neg (show ¬ a.tmod b < 0 by omega)]
    exact ⟨_, _, rfl, rfl, by omega, by omega, by omega⟩
  · rw [if_neg h2]
    by_cases h3 : a < 0
    · rw [if_pos (by simpa using h3), if_pos (by omega)]
      have hlow : -9223372036854775808 < a.tdiv b := by
        have h4 : (a.tdiv b).natAbs * b.natAbs ≤ a.natAbs := by
          rw [Int.natAbs_tdiv]; exact Nat.div_mul_le_self _ _
        by_cases h5 : b = 1
        · subst h5; have := Int.tmod_one a; omega
        · have h6 := Nat.mul_le_mul_left (a.tdiv b).natAbs (show 2 ≤ b.natAbs by omega)
          omega
      refine ⟨_, _, rfl, rfl, ?_, ?_, ?_⟩
      · rw [SatLaws.w64 (by omega) (by omega)]; omega
      · rw [SatLaws.w64 (by omega) (by omega)]; omega
      · rw [SatLaws.w64 (by omega) (by omega), SatLaws.w64 (by omega) (by omega), Int.sub_mul]; omega
    · rw [if_neg (by simpa using h3), if_neg (by omega)]
      exact ⟨_, _, rfl, rfl, by omega, by omega, by omega⟩

theorem SatLaws : leatlaw01_SatLaws.Pure := by
  intro a b w0 w1
  have ha := SatLaws.range w0
  have hb := SatLaws.range w1
  have hw : ∀ k, leatlaw01_works.f (k + 1) = some true := fun k => by kernel_rfl
  refine ⟨2, ?_⟩
  unfold leatlaw01_SatLaws.f
  obtain ⟨m, hm⟩ := SatLaws.mul_some a b 1 ha hb
  rw [SatLaws.add_ a b ha hb, SatLaws.add_ b a hb ha, Int.add_comm b a, ← SatLaws.mul_comm a b 2 ha hb, hm]
  simp only [Option.bind_some, if_true, leatlaw01_SatLaws.j0]
  rw [if_neg (by simp)]
  by_cases h0 : b ≤ 0
  · rw [if_pos h0]
    unfold sat_Mod.f
    rw [if_pos h0, hw 0]; rfl
  · rw [if_neg h0]
    obtain ⟨q, r, e1, e2, r0, r1, e3⟩ := SatLaws.div_ a b 0 ha (by omega)
    rw [e1, e2, hw 0]
    simp only [Option.bind_some]
    rw [if_pos r0, if_pos r1, if_pos]
    have h1 : wrap64 (wrap64 (q * b) + r) = wrap64 (q * b + r) := by unfold wrap64; omega
    rw [h1, e3, SatLaws.w64 (by omega) (by omega)]

end Go.Proofs.Ytdfbnbhhjhfdaaa.Pure
