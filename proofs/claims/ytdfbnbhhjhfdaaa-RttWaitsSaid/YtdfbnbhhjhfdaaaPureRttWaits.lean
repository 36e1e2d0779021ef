/- The pure statement of RttWaits: any estimate's time to wait is the reference's. -/
import Derived.Test.YtdfbnbhhjhfdaaaPRttWaitsx3
namespace Go.Proofs.Ytdfbnbhhjhfdaaa.Pure
open Go.RowKit Go.Proofs.Ytdfbnbhhjhfdaaa.PRttWaits Go.Proofs.YtdfbnbhhjhfdaaaW.PrintWords Go.Proofs.YtdfbnbhhjhfdaaaW.PrintLast Go.Proofs.YtdfbnbhhjhfdaaaW.PrintMore

theorem RttWaits.w64 {x : Int} (h0 : -9223372036854775808 ≤ x) (h1 : x ≤ 9223372036854775807) : wrap64 x = x := by
  unfold wrap64; omega

theorem RttWaits.wrap_toInt (v : BitVec 64) : IntKind.i64.wrap (v.toNat : Int) = v.toInt := by
  have := v.isLt
  rw [IntKind.wrap_i64, BitVec.toInt_eq_toNat_cond]
  split <;> omega
theorem RttWaits.msb_ofInt {x : Int} (h0 : -9223372036854775808 ≤ x) (h1 : x ≤ 9223372036854775807) : (BitVec.ofInt 64 x).msb = decide (x < 0) := by
  rw [BitVec.msb_eq_toInt, BitVec.toInt_ofInt]
  have : x.bmod (2 ^ 64) = x := by
    rw [Int.bmod_def]; simp only [Nat.reducePow]; split <;> omega
  rw [this]
theorem RttWaits.neg_msb (v : BitVec 64) : IntKind.i64.wrap (v.toNat : Int) < 0 ↔ v.msb = true := by
  rw [RttWaits.wrap_toInt, BitVec.msb_eq_toInt]; simp
theorem RttWaits.bits_range (op : BinOp) (x y : Int) : -9223372036854775808 ≤ Go.bits op .i64 x y ∧ Go.bits op .i64 x y ≤ 9223372036854775807 := by
  unfold Go.bits
  show _ ≤ IntKind.i64.wrap _ ∧ IntKind.i64.wrap _ ≤ _
  rw [IntKind.wrap_i64]; omega
theorem RttWaits.and_neg {x y : Int} (hx : -9223372036854775808 ≤ x ∧ x ≤ 9223372036854775807) (hy : -9223372036854775808 ≤ y ∧ y ≤ 9223372036854775807) :
    Go.bits .and .i64 x y < 0 ↔ x < 0 ∧ y < 0 := by
  show IntKind.i64.wrap ((BitVec.ofInt 64 x &&& BitVec.ofInt 64 y).toNat : Int) < 0 ↔ _
  rw [RttWaits.neg_msb, BitVec.msb_and, RttWaits.msb_ofInt hx.1 hx.2, RttWaits.msb_ofInt hy.1 hy.2]; simp
theorem RttWaits.xor_neg {x y : Int} (hx : -9223372036854775808 ≤ x ∧ x ≤ 9223372036854775807) (hy : -9223372036854775808 ≤ y ∧ y ≤ 9223372036854775807) :
    Go.bits .xor .i64 x y < 0 ↔ ((x < 0 ∧ ¬ y < 0) ∨ (¬ x < 0 ∧ y < 0)) := by
  show IntKind.i64.wrap ((BitVec.ofInt 64 x ^^^ BitVec.ofInt 64 y).toNat : Int) < 0 ↔ _
  rw [RttWaits.neg_msb, BitVec.msb_xor, RttWaits.msb_ofInt hx.1 hx.2, RttWaits.msb_ofInt hy.1 hy.2]
  by_cases h1 : x < 0 <;> by_cases h2 : y < 0 <;> simp [h1, h2] <;> omega

theorem RttWaits.range {a : Int} (h : (Lit.int .i64 a).wf = true) : -9223372036854775808 ≤ a ∧ a ≤ 9223372036854775807 := by
  simp only [Lit.wf, IntKind.min, IntKind.max, IntKind.signed, IntKind.bits, Bool.and_eq_true, decide_eq_true_eq, if_true] at h
  omega
theorem RttWaits.wr (x : Int) : -9223372036854775808 ≤ wrap64 x ∧ wrap64 x ≤ 9223372036854775807 := by
  unfold wrap64; omega

/-- A number kept between the ends. -/
def RttWaits.keep (x : Int) : Int := if x < -9223372036854775808 then -9223372036854775808 else if 9223372036854775807 < x then 9223372036854775807 else x

theorem RttWaits.end_ (b : Bool) : sat_end.f b = some (if b = true then -9223372036854775808 else 9223372036854775807) := by
  cases b <;> rfl

theorem RttWaits.add_ (a b : Int) (ha : -9223372036854775808 ≤ a ∧ a ≤ 9223372036854775807) (hb : -9223372036854775808 ≤ b ∧ b ≤ 9223372036854775807) :
    sat_Add.f a b = some (RttWaits.keep (a + b)) := by
  unfold sat_Add.f
  have h1 := RttWaits.xor_neg ha (RttWaits.wr (a + b))
  have h2 := RttWaits.xor_neg hb (RttWaits.wr (a + b))
  have h3 := RttWaits.and_neg (RttWaits.bits_range .xor a (wrap64 (a + b))) (RttWaits.bits_range .xor b (wrap64 (a + b)))
  rw [h1, h2] at h3
  have hw : wrap64 (a + b) = if a + b < -9223372036854775808 then a + b + 18446744073709551616 else if 9223372036854775807 < a + b then a + b - 18446744073709551616 else a + b := by
    unfold wrap64; (repeat' split) <;> omega
  clear h1 h2
  unfold RttWaits.keep
  by_cases c1 : a + b < -9223372036854775808
  · rw [if_pos c1] at hw ⊢
    rw [if_pos (h3.mpr (by omega)), RttWaits.end_]; simp only [Option.bind_some]; rw [if_pos (by simp; omega)]
  · rw [if_neg c1] at hw ⊢
    by_cases c2 : 9223372036854775807 < a + b
    · rw [if_pos c2] at hw ⊢
      rw [if_pos (h3.mpr (by omega)), RttWaits.end_]; simp only [Option.bind_some]; rw [if_neg (by simp; omega)]
    · rw [if_neg c2] at hw ⊢
      rw [if_neg (fun h => by have := h3.mp h; omega), hw]

theorem RttWaits.radd_ (a b : Int) (k : Nat) (ha : -9223372036854775808 ≤ a ∧ a ≤ 9223372036854775807) (hb : -9223372036854775808 ≤ b ∧ b ≤ 9223372036854775807) :
    leatref01_Add.f (k + 1) a b = some (RttWaits.keep (a + b)) := by
  unfold leatref01_Add.f RttWaits.keep
  simp only [leatref01_Add.j0]
  by_cases c0 : b > 0
  · rw [if_pos c0, RttWaits.w64 (by omega) (by omega)]
    by_cases c1 : a > 9223372036854775807 - b
    · rw [if_pos (by simpa using c1), if_neg (by omega), if_pos (by omega)]
    · rw [if_neg (by simpa using c1), if_neg (by omega), if_neg (by omega), if_neg (by omega), RttWaits.w64 (by omega) (by omega)]
  · rw [if_neg c0, if_neg (by decide)]
    by_cases c1 : b < 0
    · rw [if_pos c1, RttWaits.w64 (x := -9223372036854775808 - b) (by omega) (by omega)]
      by_cases c2 : a < -9223372036854775808 - b
      · rw [if_pos c2, if_pos (by omega)]
      · rw [if_neg c2, if_neg (by omega), if_neg (by omega), RttWaits.w64 (by omega) (by omega)]
    · rw [if_neg c1, if_neg (by omega), if_neg (by omega), RttWaits.w64 (by omega) (by omega)]

theorem RttWaits.clamp_ (x lo hi : Int) (k : Nat) : sat_Clamp.f x lo hi = leatref01_Clamp.f (k + 1) x lo hi := by
  unfold sat_Clamp.f leatref01_Clamp.f mx mn
  simp only [leatref01_Clamp.j0]
  by_cases h1 : x < lo
  · rw [if_pos h1]; simp only [if_true]; (repeat' split) <;> first | rfl | (congr 1; omega)
  · rw [if_neg h1]
    by_cases h2 : hi < lo
    · rw [decide_eq_true h2]; simp only [if_true]; (repeat' split) <;> first | rfl | (congr 1; omega)
    · rw [decide_eq_false h2]; simp only [Bool.false_eq_true, if_false]; (repeat' split) <;> first | rfl | (congr 1; omega)

theorem RttWaits.within2 (x v : Int) (s : Bool) : ∃ x' v' : Int, rtt_within.f x v s = some (x', v', s) ∧ leatref20_Within.f x v s = some (x', v', s) ∧ 0 ≤ x' ∧ x' ≤ 9007199254741000 ∧ 0 ≤ v' ∧ v' ≤ 9007199254741000 := by
  refine ⟨mn (mx x 0) 9007199254741000, mn (mx v 0) 9007199254741000, ?_, rfl, ?_⟩
  · unfold rtt_within.f rtt_within_1.f sat_Clamp.f
    have h : ∀ y : Int, mx 0 (mn y 9007199254741000) = mn (mx y 0) 9007199254741000 := fun y => by unfold mx mn; (repeat' split) <;> omega
    rw [h, h]; rfl
  · unfold mx mn; (repeat' split) <;> omega

theorem RttWaits.smooth_ (x v : Int) (s : Bool) (hx : 0 ≤ x ∧ x ≤ 9007199254741000) (hv : 0 ≤ v ∧ v ≤ 9007199254741000) : rtt_Smooth.f x v s = some (x / 8) := by
  unfold rtt_Smooth.f
  have h : rtt_within.f x v s = some (x, v, s) := by
    unfold rtt_within.f rtt_within_1.f sat_Clamp.f
    have h : ∀ y : Int, 0 ≤ y → y ≤ 9007199254741000 → mx 0 (mn y 9007199254741000) = y := fun y _ _ => by unfold mx mn; (repeat' split) <;> omega
    rw [h x hx.1 hx.2, h v hv.1 hv.2]; rfl
  rw [h]; rfl

theorem RttWaits : leatlaw20_RttWaits.Pure := by
  intro x v s t lo hi wx wv wt wlo whi
  have hx := RttWaits.range wx
  have hv := RttWaits.range wv
  have ht := RttWaits.range wt
  have hlo := RttWaits.range wlo
  have hhi := RttWaits.range whi
  refine ⟨10, ?_⟩
  have hw : leatlaw20_works.f (6 + 4) = some true := by kernel_rfl
  unfold leatlaw20_RttWaits.f
  rw [hw]
  suffices h : rtt_Rto.f x v s t lo hi = leatref20_Rto.f 10 x v s t lo hi ∧ ∃ r, rtt_Rto.f x v s t lo hi = some r by
    obtain ⟨h1, r, h2⟩ := h
    rw [← h1, h2]; simp
  unfold rtt_Rto.f leatref20_Rto.f
  obtain ⟨x', v', e1, e2, b1, b2, b3, b4⟩ := RttWaits.within2 x v s
  rw [e1, e2]
  simp only [Option.bind_some]
  cases s
  · exact ⟨rfl, _, rfl⟩
  · simp only [if_true]
    rw [RttWaits.smooth_ x' v' true ⟨b1, b2⟩ ⟨b3, b4⟩]
    simp only [Option.bind_some]
    have e3 : wrap64 (Int.tdiv x' 8) = x' / 8 := by
      rw [Int.tdiv_eq_ediv_of_nonneg b1, RttWaits.w64 (by omega) (by omega)]
    have hm : -9223372036854775808 ≤ mx t v' ∧ mx t v' ≤ 9223372036854775807 := by unfold mx; split <;> omega
    rw [e3, RttWaits.add_ (x' / 8) (mx t v') (by omega) hm]
    simp only [Option.bind_some]
    rw [RttWaits.clamp_ _ lo hi 9]
    by_cases h : t > v'
    · rw [if_pos h, RttWaits.radd_ (x' / 8) t 9 (by omega) ht]
      have : mx t v' = t := by unfold mx; rw [if_neg (by omega)]
      rw [this]
      simp only [Option.bind_some]
      refine ⟨trivial, ?_⟩
      unfold leatref01_Clamp.f; simp only [leatref01_Clamp.j0]; (repeat' split) <;> exact ⟨_, rfl⟩
    · rw [if_neg h, RttWaits.radd_ (x' / 8) v' 9 (by omega) (by omega)]
      have : mx t v' = v' := by unfold mx; split <;> omega
      rw [this]
      simp only [Option.bind_some]
      refine ⟨trivial, ?_⟩
      unfold leatref01_Clamp.f; simp only [leatref01_Clamp.j0]; (repeat' split) <;> exact ⟨_, rfl⟩

end Go.Proofs.Ytdfbnbhhjhfdaaa.Pure
