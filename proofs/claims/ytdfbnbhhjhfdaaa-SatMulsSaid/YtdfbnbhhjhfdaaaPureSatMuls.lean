/- The pure statement of SatMuls: the program's product is the reference's, at all numbers of 64 bits. -/
import Derived.Test.YtdfbnbhhjhfdaaaPSatMulsx3
import Derived.Lib.Mul64
import Derived.Laws.Bits64
namespace Go.Proofs.Ytdfbnbhhjhfdaaa.Pure
open Go.RowKit Go.Proofs.Ytdfbnbhhjhfdaaa.PSatMuls Go.Proofs.YtdfbnbhhjhfdaaaW.PrintWords Go.Proofs.YtdfbnbhhjhfdaaaW.PrintLast
open Go.Lib

theorem SatMuls.mask32 (z : Int) (h0 : 0 ≤ z) (h1 : z < 18446744073709551616) : Go.bits .and .u64 z 4294967295 = z % 4294967296 := by
  have h := bits_mask .u64 64 (by decide) (fun n h₀ h₁ => by rw [IntKind.wrap_u64]; omega) 32 (by decide) z h0 (by simpa using h1)
  simpa using h
theorem SatMuls.mul64 (X Y : Nat) (hX : X < 18446744073709551616) (hY : Y < 18446744073709551616) :
    bits_Mul64.f (X : Int) (Y : Int) = some (((X * Y / 18446744073709551616 : Nat) : Int), ((X * Y % 18446744073709551616 : Nat) : Int)) := by
  unfold bits_Mul64.f
  obtain ⟨m1, m2, m3, m4⟩ := mul64_hi X Y hX hY
  have b11 := half_mul_le (a := X / 4294967296) (b := Y / 4294967296) (by omega) (by omega)
  have b10 := half_mul_le (a := X / 4294967296) (b := Y % 4294967296) (by omega) (by omega)
  have b01 := half_mul_le (a := X % 4294967296) (b := Y / 4294967296) (by omega) (by omega)
  have b00 := half_mul_le (a := X % 4294967296) (b := Y % 4294967296) (by omega) (by omega)
  rw [SatMuls.mask32 (X : Int) (by omega) (by omega), SatMuls.mask32 (Y : Int) (by omega) (by omega)]
  have e11 : (X : Int) / 4294967296 * ((Y : Int) / 4294967296) = ((X / 4294967296 * (Y / 4294967296) : Nat) : Int) := by simp
  have e10 : (X : Int) / 4294967296 * ((Y : Int) % 4294967296) = ((X / 4294967296 * (Y % 4294967296) : Nat) : Int) := by simp
  have e01 : (X : Int) % 4294967296 * ((Y : Int) / 4294967296) = ((X % 4294967296 * (Y / 4294967296) : Nat) : Int) := by simp
  have e00 : (X : Int) % 4294967296 * ((Y : Int) % 4294967296) = ((X % 4294967296 * (Y % 4294967296) : Nat) : Int) := by simp
  have exy : (X : Int) * (Y : Int) = ((X * Y : Nat) : Int) := by simp
  rw [e11, e10, e01, e00, exy]
  generalize X / 4294967296 * (Y / 4294967296) = p11 at *
  generalize X / 4294967296 * (Y % 4294967296) = p10 at *
  generalize X % 4294967296 * (Y / 4294967296) = p01 at *
  generalize X % 4294967296 * (Y % 4294967296) = p00 at *
  generalize X * Y = p at *
  simp only [IntKind.wrap_u64]
  rw [SatMuls.mask32 _ (by omega) (by omega)]
  congr 2
  omega
theorem SatMuls.range {a : Int} (h : (Lit.int .i64 a).wf = true) : -9223372036854775808 ≤ a ∧ a ≤ 9223372036854775807 := by
  simp only [Lit.wf, IntKind.min, IntKind.max, IntKind.signed, IntKind.bits, Bool.and_eq_true, decide_eq_true_eq, if_true] at h
  omega

theorem SatMuls.w64 {x : Int} (h0 : -9223372036854775808 ≤ x) (h1 : x ≤ 9223372036854775807) : wrap64 x = x := by
  unfold wrap64; omega

theorem SatMuls.end_ (b : Bool) : sat_end.f b = some (if b = true then -9223372036854775808 else 9223372036854775807) := by
  cases b <;> rfl

theorem SatMuls.size_ (a : Int) (ha : -9223372036854775808 ≤ a ∧ a ≤ 9223372036854775807) : sat_size.f a = some (a.natAbs : Int) := by
  unfold sat_size.f
  split
  · have e : IntKind.u64.wrap (-(IntKind.u64.wrap a)) = (a.natAbs : Int) := by rw [IntKind.wrap_u64, IntKind.wrap_u64]; omega
    rw [e]
  · have e : IntKind.u64.wrap a = (a.natAbs : Int) := by rw [IntKind.wrap_u64]; omega
    rw [e]


/-- A size with a sign, kept at its end. -/
def SatMuls.ans (below : Bool) (T : Nat) : Int :=
  if below = true then (if 9223372036854775808 < T then -9223372036854775808 else -(T : Int)) else (if 9223372036854775808 ≤ T then 9223372036854775807 else (T : Int))

theorem SatMuls.tail_ (T k : Nat) (s : Bool) (hT : T < 340282366920938463463374607431768211456) :
    (if ((T / 18446744073709551616 : Nat) : Int) > 0 then (sat_end.f s).bind fun t => some t else (sat_signed.f (k + 1) ((T % 18446744073709551616 : Nat) : Int) s).bind fun t => some t) = some (SatMuls.ans s T) := by
  unfold SatMuls.ans
  by_cases h : ((T / 18446744073709551616 : Nat) : Int) > 0
  · rw [if_pos h, SatMuls.end_]
    cases s
    · rw [if_neg (by decide), if_neg (by decide), if_pos (by omega)]; rfl
    · rw [if_pos rfl, if_pos rfl, if_pos (by omega)]; rfl
  · rw [if_neg h]
    unfold sat_signed.f
    simp only [sat_signed.j0]
    have e : T % 18446744073709551616 = T := by omega
    rw [e]
    cases s
    · simp only [Bool.false_eq_true, if_false]
      by_cases h1 : 9223372036854775808 ≤ T
      · rw [if_pos (by omega), if_pos h1]; rfl
      · rw [if_neg (by omega), if_neg h1, SatMuls.w64 (by omega) (by omega)]; rfl
    · simp only [if_true]
      by_cases h1 : 9223372036854775808 < T
      · rw [if_pos (by simp; omega), if_pos h1]; rfl
      · rw [if_neg h1]
        by_cases h2 : T = 9223372036854775808
        · subst h2; rfl
        · rw [if_neg (by simp; omega), SatMuls.w64 (x := (T : Int)) (by omega) (by omega), SatMuls.w64 (by omega) (by omega)]; rfl

theorem SatMuls.prog_ (a b : Int) (k : Nat) (ha : -9223372036854775808 ≤ a ∧ a ≤ 9223372036854775807) (hb : -9223372036854775808 ≤ b ∧ b ≤ 9223372036854775807) :
    sat_Mul.f (k + 1) a b = some (SatMuls.ans (decide (a < 0) != decide (b < 0)) (a.natAbs * b.natAbs)) := by
  unfold sat_Mul.f
  rw [SatMuls.size_ a ha, SatMuls.size_ b hb]
  simp only [Option.bind_some]
  rw [SatMuls.mul64 a.natAbs b.natAbs (by omega) (by omega)]
  simp only [Option.bind_some]
  have hT : a.natAbs * b.natAbs < 340282366920938463463374607431768211456 := by
    have h1 : a.natAbs * b.natAbs ≤ 9223372036854775808 * 9223372036854775808 := Nat.mul_le_mul (by omega) (by omega)
    omega
  generalize a.natAbs * b.natAbs = T at *
  have ht := fun s => SatMuls.tail_ T k s hT
  by_cases h1 : a < 0 <;> by_cases h2 : b < 0
  · rw [if_pos h1, if_pos h2, decide_eq_true h1, decide_eq_true h2]; exact ht false
  · rw [if_pos h1, if_neg h2, decide_eq_true h1, decide_eq_false h2]; exact ht true
  · rw [if_neg h1, if_pos h2, decide_eq_false h1, decide_eq_true h2]; exact ht true
  · rw [if_neg h1, if_neg h2, decide_eq_false h1, decide_eq_false h2]; exact ht false

/-- The reference's loop. -/
theorem SatMuls.loop_ (s : Bool) (T : Nat) : ∀ (n Y : Nat), Y < 2 ^ n → Y ≤ 9223372036854775808 → ∀ (k : Nat) (sum by_ : Int) (full more : Bool) (B : Nat), 2 * n + 2 ≤ k →
    (more = false → by_ = -(B : Int) ∧ B ≤ 9223372036854775808) → (more = true → 9223372036854775808 < B) → -9223372036854775808 ≤ by_ → by_ ≤ 0 →
    (full = false → ∃ S : Nat, sum = -(S : Int) ∧ S ≤ 9223372036854775808 ∧ T = S + B * Y) → (full = true → 9223372036854775808 < T) →
    leatref01_Mul.l0 k s (-(Y : Int)) sum by_ full more = some (SatMuls.ans s T) := by
  intro n
  induction n with
  | zero =>
    intro Y hY hY2 k sum by_ full more B hk hm0 hm1 hb0 hb1 hf0 hf1
    obtain rfl : Y = 0 := by omega
    obtain ⟨k, rfl⟩ : ∃ m, k = m + 2 := ⟨k - 2, by omega⟩
    simp only [leatref01_Mul.l0]
    rw [if_neg (by omega)]
    unfold SatMuls.ans
    cases full
    · obtain ⟨S, rfl, hS, hT⟩ := hf0 rfl
      obtain rfl : T = S := by omega
      simp only [leatref01_Mul.j5, Bool.false_eq_true, if_false]
      cases s
      · simp only [Bool.false_eq_true, if_false]
        unfold leatref01_Neg.f
        by_cases h : 9223372036854775808 ≤ T
        · rw [if_pos (by omega), if_pos h]; rfl
        · rw [if_neg (by omega), if_neg h, SatMuls.w64 (by omega) (by omega)]; simp
      · simp only [if_true]; rw [if_neg (by omega)]
    · have hT := hf1 rfl
      simp only [leatref01_Mul.j5, if_true]
      cases s
      · simp only [Bool.false_eq_true, if_false]; rw [if_pos (by omega)]
      · simp only [if_true]; rw [if_pos hT]
  | succ n ih =>
    intro Y hY hY2 k sum by_ full more B hk hm0 hm1 hb0 hb1 hf0 hf1
    obtain ⟨k, rfl⟩ : ∃ m, k = m + 2 := ⟨k - 2, by omega⟩
    by_cases hY0 : Y = 0
    · subst hY0
      have := ih 0 (Nat.two_pow_pos n) (by omega) (k + 2) sum by_ full more B (by omega) hm0 hm1 hb0 hb1 hf0 hf1
      exact this
    have hlt : Y / 2 < 2 ^ n := by rw [Nat.pow_succ] at hY; omega
    have etd : wrap64 ((-(Y : Int)).tdiv 2) = -((Y / 2 : Nat) : Int) := by
      rw [Int.neg_tdiv, SatMuls.w64]
      · simp
      · have : ((Y : Int)).tdiv 2 = ((Y / 2 : Nat) : Int) := by simp
        omega
      · have : ((Y : Int)).tdiv 2 = ((Y / 2 : Nat) : Int) := by simp
        omega
    have etm : (-(Y : Int)).tmod 2 = -((Y % 2 : Nat) : Int) := by
      rw [Int.neg_tmod, Int.tmod_eq_emod_of_nonneg (by omega)]; omega
    -- what the second half of a round does
    have half : ∀ (k' : Nat) (sum' : Int) (full' : Bool), 2 * n + 2 ≤ k' →
        (full' = false → ∃ S : Nat, sum' = -(S : Int) ∧ S ≤ 9223372036854775808 ∧ T = S + 2 * B * (Y / 2)) → (full' = true → 9223372036854775808 < T) →
        (if more = true then leatref01_Mul.l0 k' s (wrap64 ((-(Y : Int)).tdiv 2)) sum' by_ full' true
         else if by_ < -4611686018427387904 then leatref01_Mul.l0 k' s (wrap64 ((-(Y : Int)).tdiv 2)) sum' by_ full' (decide (by_ < -4611686018427387904))
         else leatref01_Mul.l0 k' s (wrap64 ((-(Y : Int)).tdiv 2)) sum' (wrap64 (by_ * 2)) full' (decide (by_ < -4611686018427387904))) = some (SatMuls.ans s T) := by
      intro k' sum' full' hk' hs hf
      rw [etd]
      cases more
      · obtain ⟨e, hB⟩ := hm0 rfl
        rw [if_neg (by decide)]
        by_cases h : by_ < -4611686018427387904
        · rw [if_pos h, decide_eq_true h]
          exact ih (Y / 2) hlt (by omega) k' sum' by_ full' true (2 * B) hk' (fun h => by cases h) (fun _ => by omega) hb0 hb1 hs hf
        · rw [if_neg h, decide_eq_false h, SatMuls.w64 (by omega) (by omega)]
          exact ih (Y / 2) hlt (by omega) k' sum' (by_ * 2) full' false (2 * B) hk' (fun _ => ⟨by omega, by omega⟩) (fun h => by cases h) (by omega) (by omega) hs hf
      · rw [if_pos rfl]
        have := hm1 rfl
        exact ih (Y / 2) hlt (by omega) k' sum' by_ full' true (2 * B) hk' (fun h => by cases h) (fun _ => by omega) hb0 hb1 hs hf
    have hsplit : B * Y = 2 * B * (Y / 2) + B * (Y % 2) := by
      have h1 : Y = 2 * (Y / 2) + Y % 2 := by omega
      have h2 : B * Y = B * (2 * (Y / 2) + Y % 2) := congrArg (B * ·) h1
      rw [h2, Nat.mul_add, Nat.mul_comm 2 B, Nat.mul_assoc]
    simp only [leatref01_Mul.l0]
    rw [if_pos (show -(Y : Int) < 0 by omega), etm]
    by_cases hodd : Y % 2 = 0
    · rw [if_pos (by omega)]
      rw [hodd, Nat.mul_zero, Nat.add_zero] at hsplit
      exact half (k + 1) sum full (by omega) (fun h => by obtain ⟨S, e, hS, hT⟩ := hf0 h; exact ⟨S, e, hS, by omega⟩) hf1
    · have ho : Y % 2 = 1 := by omega
      rw [ho, Nat.mul_one] at hsplit
      rw [if_neg (by omega)]
      simp only [leatref01_Mul.j4]
      cases full
      · obtain ⟨S, rfl, hS, hT⟩ := hf0 rfl
        rw [if_neg (by decide)]
        cases more
        · obtain ⟨rfl, hB⟩ := hm0 rfl
          rw [if_neg (by decide), SatMuls.w64 (x := -9223372036854775808 - -(B : Int)) (by omega) (by omega)]
          by_cases h : -(S : Int) < -9223372036854775808 - -(B : Int)
          · rw [decide_eq_true h, if_pos rfl]
            have hT2 : 9223372036854775808 < T := by omega
            exact half k (-(S : Int)) true (by omega) (fun h => by cases h) (fun _ => hT2)
          · rw [decide_eq_false h, if_neg (by decide), SatMuls.w64 (x := -(S : Int) + -(B : Int)) (by omega) (by omega)]
            exact half k (-(S : Int) + -(B : Int)) false (by omega) (fun _ => ⟨S + B, by omega, by omega, by omega⟩) (fun h => by cases h)
        · have hB := hm1 rfl
          rw [if_pos rfl, if_pos rfl]
          exact half k (-(S : Int)) true (by omega) (fun h => by cases h) (fun _ => by omega)
      · rw [if_pos rfl, if_pos trivial]
        exact half k sum true (by omega) (fun h => by cases h) hf1

theorem SatMuls.ref_ (a b : Int) (ha : -9223372036854775808 ≤ a ∧ a ≤ 9223372036854775807) (hb : -9223372036854775808 ≤ b ∧ b ≤ 9223372036854775807) :
    leatref01_Mul.f 200 a b = some (SatMuls.ans (decide (a < 0) != decide (b < 0)) (a.natAbs * b.natAbs)) := by
  unfold leatref01_Mul.f
  by_cases ha0 : a = 0
  · subst ha0
    rw [if_pos rfl]
    simp only [leatref01_Mul.j0, if_true, Int.natAbs_zero, Nat.zero_mul]
    unfold SatMuls.ans; cases (decide ((0 : Int) < 0) != decide (b < 0)) <;> rfl
  rw [if_neg ha0]
  by_cases hb0 : b = 0
  · subst hb0
    simp only [leatref01_Mul.j0, Int.natAbs_zero, Nat.mul_zero, beq_self_eq_true, if_true]
    unfold SatMuls.ans; cases (decide (a < 0) != decide ((0 : Int) < 0)) <;> rfl
  have hb1 : (b == 0) = false := by simpa using hb0
  rw [hb1]
  have key : ∀ s k, 160 ≤ k → leatref01_Mul.l0 k s (-(b.natAbs : Int)) 0 (-(a.natAbs : Int)) false false = some (SatMuls.ans s (a.natAbs * b.natAbs)) := by
    intro s k hk
    exact SatMuls.loop_ s _ 64 b.natAbs (by omega) (by omega) k 0 _ false false a.natAbs (by omega) (fun _ => ⟨rfl, by omega⟩) (fun h => by cases h) (by omega) (by omega) (fun _ => ⟨0, by simp, by omega, by simp⟩) (fun h => by cases h)
  simp only [leatref01_Mul.j0, leatref01_Mul.j1, leatref01_Mul.j2, leatref01_Mul.j6, leatref01_Mul.j7, leatref01_Mul.j8, leatref01_Mul.j9, leatref01_Mul.j10, leatref01_Mul.j11, Bool.false_eq_true, if_false]
  by_cases h1 : a < 0 <;> by_cases h2 : b < 0
  · rw [if_pos h1, if_pos h2, if_neg (by omega), if_neg (by omega), decide_eq_true h1, decide_eq_true h2]
    have := key false 197 (by omega)
    rw [show -(b.natAbs : Int) = b by omega, show -(a.natAbs : Int) = a by omega] at this
    exact this
  · rw [if_pos h1, if_neg h2, if_neg (by omega), if_pos (by omega), decide_eq_true h1, decide_eq_false h2, SatMuls.w64 (by omega) (by omega)]
    have := key true 197 (by omega)
    rw [show -(b.natAbs : Int) = -b by omega, show -(a.natAbs : Int) = a by omega] at this
    exact this
  · rw [if_neg h1, if_pos h2, if_pos (by omega), if_neg (by omega), decide_eq_false h1, decide_eq_true h2, SatMuls.w64 (by omega) (by omega)]
    have := key true 197 (by omega)
    rw [show -(b.natAbs : Int) = b by omega, show -(a.natAbs : Int) = -a by omega] at this
    exact this
  · rw [if_neg h1, if_neg h2, if_pos (by omega), if_pos (by omega), decide_eq_false h1, decide_eq_false h2, SatMuls.w64 (by omega) (by omega), SatMuls.w64 (x := -a) (by omega) (by omega)]
    have := key false 197 (by omega)
    rw [show -(b.natAbs : Int) = -b by omega, show -(a.natAbs : Int) = -a by omega] at this
    exact this

theorem SatMuls : leatlaw01_SatMuls.Pure := by
  intro a b w0 w1
  have ha := SatMuls.range w0
  have hb := SatMuls.range w1
  have hw : leatlaw01_works.f (199 + 1) = some true := by kernel_rfl
  refine ⟨200, ?_⟩
  unfold leatlaw01_SatMuls.f
  rw [SatMuls.ref_ a b ha hb, SatMuls.prog_ a b 199 ha hb, hw]
  simp

end Go.Proofs.Ytdfbnbhhjhfdaaa.Pure
