/- The pure statement of SatAdds: the program's sum, difference, negative and size are the reference's, at all numbers of 64 bits. -/
import Derived.Test.YtdfbnbhhjhfdaaaPSatAddsx2
namespace Go.Proofs.Ytdfbnbhhjhfdaaa.Pure
open Go.RowKit Go.Proofs.Ytdfbnbhhjhfdaaa.PSatAdds Go.Proofs.YtdfbnbhhjhfdaaaW.PrintWords Go.Proofs.YtdfbnbhhjhfdaaaW.PrintLast

theorem SatAdds.wrap_toInt (v : BitVec 64) : IntKind.i64.wrap (v.toNat : Int) = v.toInt := by
  have := v.isLt
  rw [IntKind.wrap_i64, BitVec.toInt_eq_toNat_cond]
  split <;> omega
theorem SatAdds.msb_ofInt {x : Int} (h0 : -9223372036854775808 ≤ x) (h1 : x ≤ 9223372036854775807) : (BitVec.ofInt 64 x).msb = decide (x < 0) := by
  rw [BitVec.msb_eq_toInt, BitVec.toInt_ofInt]
  have : x.bmod (2 ^ 64) = x := by
    rw [Int.bmod_def]; simp only [Nat.reducePow]; split <;> omega
  rw [this]
theorem SatAdds.neg_msb (v : BitVec 64) : IntKind.i64.wrap (v.toNat : Int) < 0 ↔ v.msb = true := by
  rw [SatAdds.wrap_toInt, BitVec.msb_eq_toInt]; simp
theorem SatAdds.bits_range (op : BinOp) (x y : Int) : -9223372036854775808 ≤ Go.bits op .i64 x y ∧ Go.bits op .i64 x y ≤ 9223372036854775807 := by
  unfold Go.bits
  show _ ≤ IntKind.i64.wrap _ ∧ IntKind.i64.wrap _ ≤ _
  rw [IntKind.wrap_i64]; omega
theorem SatAdds.and_neg {x y : Int} (hx : -9223372036854775808 ≤ x ∧ x ≤ 9223372036854775807) (hy : -9223372036854775808 ≤ y ∧ y ≤ 9223372036854775807) :
    Go.bits .and .i64 x y < 0 ↔ x < 0 ∧ y < 0 := by
  show IntKind.i64.wrap ((BitVec.ofInt 64 x &&& BitVec.ofInt 64 y).toNat : Int) < 0 ↔ _
  rw [SatAdds.neg_msb, BitVec.msb_and, SatAdds.msb_ofInt hx.1 hx.2, SatAdds.msb_ofInt hy.1 hy.2]; simp
theorem SatAdds.xor_neg {x y : Int} (hx : -9223372036854775808 ≤ x ∧ x ≤ 9223372036854775807) (hy : -9223372036854775808 ≤ y ∧ y ≤ 9223372036854775807) :
    Go.bits .xor .i64 x y < 0 ↔ ((x < 0 ∧ ¬ y < 0) ∨ (¬ x < 0 ∧ y < 0)) := by
  show IntKind.i64.wrap ((BitVec.ofInt 64 x ^^^ BitVec.ofInt 64 y).toNat : Int) < 0 ↔ _
  rw [SatAdds.neg_msb, BitVec.msb_xor, SatAdds.msb_ofInt hx.1 hx.2, SatAdds.msb_ofInt hy.1 hy.2]
  by_cases h1 : x < 0 <;> by_cases h2 : y < 0 <;> simp [h1, h2] <;> omega

theorem SatAdds.range {a : Int} (h : (Lit.int .i64 a).wf = true) : -9223372036854775808 ≤ a ∧ a ≤ 9223372036854775807 := by
  simp only [Lit.wf, IntKind.min, IntKind.max, IntKind.signed, IntKind.bits, Bool.and_eq_true, decide_eq_true_eq, if_true] at h
  omega
theorem SatAdds.w64 {x : Int} (h0 : -9223372036854775808 ≤ x) (h1 : x ≤ 9223372036854775807) : wrap64 x = x := by
  unfold wrap64; omega
theorem SatAdds.wr (x : Int) : -9223372036854775808 ≤ wrap64 x ∧ wrap64 x ≤ 9223372036854775807 := by
  unfold wrap64; omega

/-- A number kept between the ends. -/
def SatAdds.keep (x : Int) : Int := if x < -9223372036854775808 then -9223372036854775808 else if 9223372036854775807 < x then 9223372036854775807 else x

theorem SatAdds.end_ (b : Bool) : sat_end.f b = some (if b = true then -9223372036854775808 else 9223372036854775807) := by
  cases b <;> rfl

theorem SatAdds.add_ (a b : Int) (ha : -9223372036854775808 ≤ a ∧ a ≤ 9223372036854775807) (hb : -9223372036854775808 ≤ b ∧ b ≤ 9223372036854775807) :
    sat_Add.f a b = some (SatAdds.keep (a + b)) := by
  unfold sat_Add.f
  have h1 := SatAdds.xor_neg ha (SatAdds.wr (a + b))
  have h2 := SatAdds.xor_neg hb (SatAdds.wr (a + b))
  have h3 := SatAdds.and_neg (SatAdds.bits_range .xor a (wrap64 (a + b))) (SatAdds.bits_range .xor b (wrap64 (a + b)))
  rw [h1, h2] at h3
  have hw : wrap64 (a + b) = if a + b < -9223372036854775808 then a + b + 18446744073709551616 else if 9223372036854775807 < a + b then a + b - 18446744073709551616 else a + b := by
    unfold wrap64; (repeat' split) <;> omega
  clear h1 h2
  unfold SatAdds.keep
  by_cases c1 : a + b < -9223372036854775808
  · rw [if_pos c1] at hw ⊢
    rw [if_pos (h3.mpr (by omega)), SatAdds.end_]; simp only [Option.bind_some]; rw [if_pos (by simp; omega)]
  · rw [if_neg c1] at hw ⊢
    by_cases c2 : 9223372036854775807 < a + b
    · rw [if_pos c2] at hw ⊢
      rw [if_pos (h3.mpr (by omega)), SatAdds.end_]; simp only [Option.bind_some]; rw [if_neg (by simp; omega)]
    · rw [if_neg c2] at hw ⊢
      rw [if_neg (fun h => by have := h3.mp h; omega), hw]

theorem SatAdds.sub_ (a b : Int) (ha : -9223372036854775808 ≤ a ∧ a ≤ 9223372036854775807) (hb : -9223372036854775808 ≤ b ∧ b ≤ 9223372036854775807) :
    sat_Sub.f a b = some (SatAdds.keep (a - b)) := by
  unfold sat_Sub.f
  have h1 := SatAdds.xor_neg ha hb
  have h2 := SatAdds.xor_neg ha (SatAdds.wr (a - b))
  have h3 := SatAdds.and_neg (SatAdds.bits_range .xor a b) (SatAdds.bits_range .xor a (wrap64 (a - b)))
  rw [h1, h2] at h3
  have hw : wrap64 (a - b) = if a - b < -9223372036854775808 then a - b + 18446744073709551616 else if 9223372036854775807 < a - b then a - b - 18446744073709551616 else a - b := by
    unfold wrap64; (repeat' split) <;> omega
  clear h1 h2
  unfold SatAdds.keep
  by_cases c1 : a - b < -9223372036854775808
  · rw [if_pos c1] at hw ⊢
    rw [if_pos (h3.mpr (by omega)), SatAdds.end_]; simp only [Option.bind_some]; rw [if_pos (by simp; omega)]
  · rw [if_neg c1] at hw ⊢
    by_cases c2 : 9223372036854775807 < a - b
    · rw [if_pos c2] at hw ⊢
      rw [if_pos (h3.mpr (by omega)), SatAdds.end_]; simp only [Option.bind_some]; rw [if_neg (by simp; omega)]
    · rw [if_neg c2] at hw ⊢
      rw [if_neg (fun h => by have := h3.mp h; omega), hw]

theorem SatAdds.radd_ (a b : Int) (k : Nat) (ha : -9223372036854775808 ≤ a ∧ a ≤ 9223372036854775807) (hb : -9223372036854775808 ≤ b ∧ b ≤ 9223372036854775807) :
    leatref01_Add.f (k + 1) a b = some (SatAdds.keep (a + b)) := by
  unfold leatref01_Add.f SatAdds.keep
  simp only [leatref01_Add.j0]
  by_cases c0 : b > 0
  · rw [if_pos c0, SatAdds.w64 (by omega) (by omega)]
    by_cases c1 : a > 9223372036854775807 - b
    · rw [if_pos (by simpa using c1), if_neg (by omega), if_pos (by omega)]
    · rw [if_neg (by simpa using c1), if_neg (by omega), if_neg (by omega), if_neg (by omega), SatAdds.w64 (by omega) (by omega)]
  · rw [if_neg c0, if_neg (by decide)]
    by_cases c1 : b < 0
    · rw [if_pos c1, SatAdds.w64 (x := -9223372036854775808 - b) (by omega) (by omega)]
      by_cases c2 : a < -9223372036854775808 - b
      · rw [if_pos c2, if_pos (by omega)]
      · rw [if_neg c2, if_neg (by omega), if_neg (by omega), SatAdds.w64 (by omega) (by omega)]
    · rw [if_neg c1, if_neg (by omega), if_neg (by omega), SatAdds.w64 (by omega) (by omega)]

theorem SatAdds.rsub_ (a b : Int) (k : Nat) (ha : -9223372036854775808 ≤ a ∧ a ≤ 9223372036854775807) (hb : -9223372036854775808 ≤ b ∧ b ≤ 9223372036854775807) :
    leatref01_Sub.f (k + 1) a b = some (SatAdds.keep (a - b)) := by
  unfold leatref01_Sub.f
  by_cases c : b = -9223372036854775808
  · rw [if_pos c]
    unfold SatAdds.keep
    by_cases c1 : a ≥ 0
    · rw [if_pos c1, if_neg (by omega), if_pos (by omega)]
    · rw [if_neg c1, if_neg (by omega), if_neg (by omega), SatAdds.w64 (by omega) (by omega)]
  · rw [if_neg c, SatAdds.w64 (by omega) (by omega), SatAdds.radd_ a (-b) k ha (by omega)]
    rfl

theorem SatAdds.neg_ (a : Int) (ha : -9223372036854775808 ≤ a ∧ a ≤ 9223372036854775807) : sat_Neg.f a = leatref01_Neg.f a := by
  unfold sat_Neg.f leatref01_Neg.f
  rw [SatAdds.sub_ 0 a (by omega) ha]
  unfold SatAdds.keep
  simp only [Option.bind_some]
  by_cases c : a = -9223372036854775808
  · rw [if_pos c, if_neg (by omega), if_pos (by omega)]
  · rw [if_neg c, if_neg (by omega), if_neg (by omega), SatAdds.w64 (by omega) (by omega)]
    simp

theorem SatAdds.neg_some (a : Int) : ∃ r, leatref01_Neg.f a = some r := by
  unfold leatref01_Neg.f; split <;> exact ⟨_, rfl⟩

theorem SatAdds.abs_ (a : Int) (k : Nat) (ha : -9223372036854775808 ≤ a ∧ a ≤ 9223372036854775807) : sat_Abs.f (k + 1) a = leatref01_Abs.f a := by
  unfold sat_Abs.f leatref01_Abs.f sat_size.f sat_signed.f leatref01_Neg.f
  simp only [sat_signed.j0]
  by_cases c : a < 0
  · rw [if_pos c, if_pos c]
    simp only [Option.bind_some]
    rw [if_neg (by decide), if_neg (by decide), if_neg (by decide)]
    have e : IntKind.u64.wrap (-(IntKind.u64.wrap a)) = -a := by rw [IntKind.wrap_u64, IntKind.wrap_u64]; omega
    rw [e]
    by_cases c1 : a = -9223372036854775808
    · rw [if_pos c1, if_pos (by omega)]
    · rw [if_neg c1, if_neg (by omega)]
  · rw [if_neg c, if_neg c]
    simp only [Option.bind_some]
    rw [if_neg (by decide), if_neg (by decide), if_neg (by decide)]
    have e : IntKind.u64.wrap a = a := by rw [IntKind.wrap_u64]; omega
    rw [e, if_neg (by omega), SatAdds.w64 (by omega) (by omega)]; rfl

theorem SatAdds.abs_some (a : Int) : ∃ r, leatref01_Abs.f a = some r := by
  unfold leatref01_Abs.f
  split
  · obtain ⟨r, h⟩ := SatAdds.neg_some a; exact ⟨r, by rw [h]; rfl⟩
  · exact ⟨_, rfl⟩

theorem SatAdds : leatlaw01_SatAdds.Pure := by
  intro a b w0 w1
  have ha := SatAdds.range w0
  have hb := SatAdds.range w1
  have hw : leatlaw01_works.f 1 = some true := by kernel_rfl
  refine ⟨1, ?_⟩
  obtain ⟨n, hn⟩ := SatAdds.neg_some a
  obtain ⟨m, hm⟩ := SatAdds.abs_some a
  unfold leatlaw01_SatAdds.f
  rw [SatAdds.add_ a b ha hb, SatAdds.radd_ a b 0 ha hb, SatAdds.sub_ a b ha hb, SatAdds.rsub_ a b 0 ha hb, SatAdds.neg_ a ha, hn, SatAdds.abs_ a 0 ha, hm, hw]
  simp

end Go.Proofs.Ytdfbnbhhjhfdaaa.Pure
