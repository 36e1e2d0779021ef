/- The pure statement of SatClamps: a number kept between two, and a sum of up to twenty numbers, are the reference's. -/
import Derived.Test.YtdfbnbhhjhfdaaaPSatClampsx2
namespace Go.Proofs.Ytdfbnbhhjhfdaaa.Pure
open Go.RowKit Go.Proofs.Ytdfbnbhhjhfdaaa.PSatClamps Go.Proofs.YtdfbnbhhjhfdaaaW.PrintWords Go.Proofs.YtdfbnbhhjhfdaaaW.PrintLast Go.Proofs.YtdfbnbhhjhfdaaaW.PrintMore

theorem SatClamps.wrap_toInt (v : BitVec 64) : IntKind.i64.wrap (v.toNat : Int) = v.toInt := by
  have := v.isLt
  rw [IntKind.wrap_i64, BitVec.toInt_eq_toNat_cond]
  split <;> omega
theorem SatClamps.msb_ofInt {x : Int} (h0 : -9223372036854775808 ≤ x) (h1 : x ≤ 9223372036854775807) : (BitVec.ofInt 64 x).msb = decide (x < 0) := by
  rw [BitVec.msb_eq_toInt, BitVec.toInt_ofInt]
  have : x.bmod (2 ^ 64) = x := by
    rw [Int.bmod_def]; simp only [Nat.reducePow]; split <;> omega
  rw [this]
theorem SatClamps.neg_msb (v : BitVec 64) : IntKind.i64.wrap (v.toNat : Int) < 0 ↔ v.msb = true := by
  rw [SatClamps.wrap_toInt, BitVec.msb_eq_toInt]; simp
theorem SatClamps.bits_range (op : BinOp) (x y : Int) : -9223372036854775808 ≤ Go.bits op .i64 x y ∧ Go.bits op .i64 x y ≤ 9223372036854775807 := by
  unfold Go.bits
  show _ ≤ IntKind.i64.wrap _ ∧ IntKind.i64.wrap _ ≤ _
  rw [IntKind.wrap_i64]; omega
theorem SatClamps.and_neg {x y : Int} (hx : -9223372036854775808 ≤ x ∧ x ≤ 9223372036854775807) (hy : -9223372036854775808 ≤ y ∧ y ≤ 9223372036854775807) :
    Go.bits .and .i64 x y < 0 ↔ x < 0 ∧ y < 0 := by
  show IntKind.i64.wrap ((BitVec.ofInt 64 x &&& BitVec.ofInt 64 y).toNat : Int) < 0 ↔ _
  rw [SatClamps.neg_msb, BitVec.msb_and, SatClamps.msb_ofInt hx.1 hx.2, SatClamps.msb_ofInt hy.1 hy.2]; simp
theorem SatClamps.xor_neg {x y : Int} (hx : -9223372036854775808 ≤ x ∧ x ≤ 9223372036854775807) (hy : -9223372036854775808 ≤ y ∧ y ≤ 9223372036854775807) :
    Go.bits .xor .i64 x y < 0 ↔ ((x < 0 ∧ ¬ y < 0) ∨ (¬ x < 0 ∧ y < 0)) := by
  show IntKind.i64.wrap ((BitVec.ofInt 64 x ^^^ BitVec.ofInt 64 y).toNat : Int) < 0 ↔ _
  rw [SatClamps.neg_msb, BitVec.msb_xor, SatClamps.msb_ofInt hx.1 hx.2, SatClamps.msb_ofInt hy.1 hy.2]
  by_cases h1 : x < 0 <;> by_cases h2 : y < 0 <;> simp [h1, h2] <;> omega

theorem SatClamps.range {a : Int} (h : (Lit.int .i64 a).wf = true) : -9223372036854775808 ≤ a ∧ a ≤ 9223372036854775807 := by
  simp only [Lit.wf, IntKind.min, IntKind.max, IntKind.signed, IntKind.bits, Bool.and_eq_true, decide_eq_true_eq, if_true] at h
  omega
theorem SatClamps.w64 {x : Int} (h0 : -9223372036854775808 ≤ x) (h1 : x ≤ 9223372036854775807) : wrap64 x = x := by
  unfold wrap64; omega
theorem SatClamps.wr (x : Int) : -9223372036854775808 ≤ wrap64 x ∧ wrap64 x ≤ 9223372036854775807 := by
  unfold wrap64; omega

/-- A number kept between the ends. -/
def SatClamps.keep (x : Int) : Int := if x < -9223372036854775808 then -9223372036854775808 else if 9223372036854775807 < x then 9223372036854775807 else x

theorem SatClamps.end_ (b : Bool) : sat_end.f b = some (if b = true then -9223372036854775808 else 9223372036854775807) := by
  cases b <;> rfl

theorem SatClamps.add_ (a b : Int) (ha : -9223372036854775808 ≤ a ∧ a ≤ 9223372036854775807) (hb : -9223372036854775808 ≤ b ∧ b ≤ 9223372036854775807) :
    sat_Add.f a b = some (SatClamps.keep (a + b)) := by
  unfold sat_Add.f
  have h1 := SatClamps.xor_neg ha (SatClamps.wr (a + b))
  have h2 := SatClamps.xor_neg hb (SatClamps.wr (a + b))
  have h3 := SatClamps.and_neg (SatClamps.bits_range .xor a (wrap64 (a + b))) (SatClamps.bits_range .xor b (wrap64 (a + b)))
  rw [h1, h2] at h3
  have hw : wrap64 (a + b) = if a + b < -9223372036854775808 then a + b + 18446744073709551616 else if 9223372036854775807 < a + b then a + b - 18446744073709551616 else a + b := by
    unfold wrap64; (repeat' split) <;> omega
  clear h1 h2
  unfold SatClamps.keep
  by_cases c1 : a + b < -9223372036854775808
  · rw [if_pos c1] at hw ⊢
    rw [if_pos (h3.mpr (by omega)), SatClamps.end_]; simp only [Option.bind_some]; rw [if_pos (by simp; omega)]
  · rw [if_neg c1] at hw ⊢
    by_cases c2 : 9223372036854775807 < a + b
    · rw [if_pos c2] at hw ⊢
      rw [if_pos (h3.mpr (by omega)), SatClamps.end_]; simp only [Option.bind_some]; rw [if_neg (by simp; omega)]
    · rw [if_neg c2] at hw ⊢
      rw [if_neg (fun h => by have := h3.mp h; omega), hw]

theorem SatClamps.radd_ (a b : Int) (k : Nat) (ha : -9223372036854775808 ≤ a ∧ a ≤ 9223372036854775807) (hb : -9223372036854775808 ≤ b ∧ b ≤ 9223372036854775807) :
    leatref01_Add.f (k + 1) a b = some (SatClamps.keep (a + b)) := by
  unfold leatref01_Add.f SatClamps.keep
  simp only [leatref01_Add.j0]
  by_cases c0 : b > 0
  · rw [if_pos c0, SatClamps.w64 (by omega) (by omega)]
    by_cases c1 : a > 9223372036854775807 - b
    · rw [if_pos (by simpa using c1), if_neg (by omega), if_pos (by omega)]
    · rw [if_neg (by simpa using c1), if_neg (by omega), if_neg (by omega), if_neg (by omega), SatClamps.w64 (by omega) (by omega)]
  · rw [if_neg c0, if_neg (by decide)]
    by_cases c1 : b < 0
    · rw [if_pos c1, SatClamps.w64 (x := -9223372036854775808 - b) (by omega) (by omega)]
      by_cases c2 : a < -9223372036854775808 - b
      · rw [if_pos c2, if_pos (by omega)]
      · rw [if_neg c2, if_neg (by omega), if_neg (by omega), SatClamps.w64 (by omega) (by omega)]
    · rw [if_neg c1, if_neg (by omega), if_neg (by omega), SatClamps.w64 (by omega) (by omega)]


theorem SatClamps.clamp_ (x lo hi : Int) (k : Nat) : sat_Clamp.f x lo hi = leatref01_Clamp.f (k + 1) x lo hi := by
  unfold sat_Clamp.f leatref01_Clamp.f mx mn
  simp only [leatref01_Clamp.j0]
  by_cases h1 : x < lo
  · rw [if_pos h1]; simp only [if_true]; (repeat' split) <;> first | rfl | (congr 1; omega)
  · rw [if_neg h1]
    by_cases h2 : hi < lo
    · rw [decide_eq_true h2]; simp only [if_true]; (repeat' split) <;> first | rfl | (congr 1; omega)
    · rw [decide_eq_false h2]; simp only [Bool.false_eq_true, if_false]; (repeat' split) <;> first | rfl | (congr 1; omega)

theorem SatClamps.clamp_some (x lo hi : Int) : ∃ r, sat_Clamp.f x lo hi = some r := ⟨_, rfl⟩

theorem SatClamps.keep_range (x : Int) : -9223372036854775808 ≤ SatClamps.keep x ∧ SatClamps.keep x ≤ 9223372036854775807 := by
  unfold SatClamps.keep; (repeat' split) <;> omega

theorem SatClamps.rd_range (l : List Int) (hl : ∀ x ∈ l, (Lit.int .i64 x).wf = true) (i : Int) : -9223372036854775808 ≤ rd l i ∧ rd l i ≤ 9223372036854775807 := by
  unfold rd
  by_cases h : i.toNat < l.length
  · rw [List.getD_eq_getElem?_getD, List.getElem?_eq_getElem h]
    exact SatClamps.range (hl _ (List.getElem_mem h))
  · rw [List.getD_eq_getElem?_getD, List.getElem?_eq_none (by omega)]; simp

/-- Both sums, from the same place on. -/
theorem SatClamps.sums (l : List Int) (hlen : l.length ≤ 20) (hl : ∀ x ∈ l, (Lit.int .i64 x).wf = true) (d : Nat) : ∀ (k : Nat) (i s : Int), 0 ≤ i → i ≤ l.length → (l.length : Int) - i = d → d + 1 < k →
    -9223372036854775808 ≤ s → s ≤ 9223372036854775807 →
    ∃ r, leatref01_Sum.l0 k l s i = some r ∧ sat_Sum.l0 k s l (l.length : Int) i = some r := by
  induction d with
  | zero =>
    intro k i s h0 h1 hd hk hs0 hs1
    obtain ⟨k, rfl⟩ : ∃ m, k = m + 1 := ⟨k - 1, by omega⟩
    exact ⟨s, by simp only [leatref01_Sum.l0]; rw [if_neg (by omega)], by simp only [sat_Sum.l0]; rw [if_neg (by omega)]⟩
  | succ d ih =>
    intro k i s h0 h1 hd hk hs0 hs1
    obtain ⟨k, rfl⟩ : ∃ m, k = m + 1 := ⟨k - 1, by omega⟩
    have hr := SatClamps.rd_range l hl i
    have hkp := SatClamps.keep_range (s + rd l i)
    obtain ⟨k, rfl⟩ : ∃ m, k = m + 1 := ⟨k - 1, by omega⟩
    obtain ⟨r, e1, e2⟩ := ih (k + 1) (i + 1) (SatClamps.keep (s + rd l i)) (by omega) (by omega) (by omega) (by omega) hkp.1 hkp.2
    refine ⟨r, ?_, ?_⟩
    · rw [leatref01_Sum.l0, if_pos (by omega), if_pos h0, SatClamps.radd_ s (rd l i) k ⟨hs0, hs1⟩ hr]
      simp only [Option.bind_some]
      rw [SatClamps.w64 (by omega) (by omega)]; exact e1
    · rw [sat_Sum.l0, if_pos (by omega), if_pos h0, if_pos (by omega), SatClamps.add_ s (rd l i) ⟨hs0, hs1⟩ hr]
      simp only [Option.bind_some]
      rw [SatClamps.w64 (by omega) (by omega)]; exact e2

theorem SatClamps : leatlaw01_SatClamps.Pure := by
  intro x lo hi l w0 w1 w2 hl1 hl2 hl
  have hw : leatlaw01_works.f (29 + 1) = some true := by kernel_rfl
  refine ⟨30, ?_⟩
  obtain ⟨r, hr⟩ := SatClamps.clamp_some x lo hi
  unfold leatlaw01_SatClamps.f
  rw [hw, ← SatClamps.clamp_ x lo hi 29, hr]
  have hm : 0 ≤ mn (l.length : Int) 20 ∧ mn (l.length : Int) 20 ≤ l.length ∧ mn (l.length : Int) 20 ≤ 20 := by
    unfold mn; split <;> omega
  rw [if_pos hm.1, if_pos hm.2.1]
  simp only [Option.bind_some, if_true]
  obtain ⟨s, e1, e2⟩ := SatClamps.sums (l.take (mn (l.length : Int) 20).toNat) (by rw [List.length_take]; omega) (fun x hx => hl x (List.mem_of_mem_take hx)) (l.take (mn (l.length : Int) 20).toNat).length 30 0 0 (by omega) (by omega) (by omega) (by rw [List.length_take]; omega) (by omega) (by omega)
  unfold sat_Sum.f leatref01_Sum.f
  rw [e1, e2]
  simp

end Go.Proofs.Ytdfbnbhhjhfdaaa.Pure
