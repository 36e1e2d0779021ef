/- The pure statement of PacerBounds: what is let go within any time is at most the burst, and the rate by that time. -/
import Derived.Test.YthoeidcpemfmlaaPPacerBoundsx3
import Derived.Lib.Mul64
import Derived.Laws.Bits64
namespace Go.Proofs.Ythoeidcpemfmlaa.Pure
open Go.RowKit Go.Proofs.Ythoeidcpemfmlaa.PPacerBounds Go.Proofs.YthoeidcpemfmlaaW.PrintWords Go.Proofs.YthoeidcpemfmlaaW.PrintLast Go.Proofs.YthoeidcpemfmlaaW.PrintMore Go.Proofs.Ythoeidcpemfmlaa.Inj
open Go.Lib

theorem PacerBounds.wrap_toInt (v : BitVec 64) : IntKind.i64.wrap (v.toNat : Int) = v.toInt := by
  have := v.isLt
  rw [IntKind.wrap_i64, BitVec.toInt_eq_toNat_cond]
  split <;> omega
theorem PacerBounds.msb_ofInt {x : Int} (h0 : -9223372036854775808 ≤ x) (h1 : x ≤ 9223372036854775807) : (BitVec.ofInt 64 x).msb = decide (x < 0) := by
  rw [BitVec.msb_eq_toInt, BitVec.toInt_ofInt]
  have : x.bmod (2 ^ 64) = x := by
    rw [Int.bmod_def]; simp only [Nat.reducePow]; split <;> omega
  rw [this]
theorem PacerBounds.neg_msb (v : BitVec 64) : IntKind.i64.wrap (v.toNat : Int) < 0 ↔ v.msb = true := by
  rw [PacerBounds.wrap_toInt, BitVec.msb_eq_toInt]; simp
theorem PacerBounds.bits_range (op : BinOp) (x y : Int) : -9223372036854775808 ≤ Go.bits op .i64 x y ∧ Go.bits op .i64 x y ≤ 9223372036854775807 := by
  unfold Go.bits
  show _ ≤ IntKind.i64.wrap _ ∧ IntKind.i64.wrap _ ≤ _
  rw [IntKind.wrap_i64]; omega
theorem PacerBounds.and_neg {x y : Int} (hx : -9223372036854775808 ≤ x ∧ x ≤ 9223372036854775807) (hy : -9223372036854775808 ≤ y ∧ y ≤ 9223372036854775807) :
    Go.bits .and .i64 x y < 0 ↔ x < 0 ∧ y < 0 := by
  show IntKind.i64.wrap ((BitVec.ofInt 64 x &&& BitVec.ofInt 64 y).toNat : Int) < 0 ↔ _
  rw [PacerBounds.neg_msb, BitVec.msb_and, PacerBounds.msb_ofInt hx.1 hx.2, PacerBounds.msb_ofInt hy.1 hy.2]; simp
theorem PacerBounds.xor_neg {x y : Int} (hx : -9223372036854775808 ≤ x ∧ x ≤ 9223372036854775807) (hy : -9223372036854775808 ≤ y ∧ y ≤ 9223372036854775807) :
    Go.bits .xor .i64 x y < 0 ↔ ((x < 0 ∧ ¬ y < 0) ∨ (¬ x < 0 ∧ y < 0)) := by
  show IntKind.i64.wrap ((BitVec.ofInt 64 x ^^^ BitVec.ofInt 64 y).toNat : Int) < 0 ↔ _
  rw [PacerBounds.neg_msb, BitVec.msb_xor, PacerBounds.msb_ofInt hx.1 hx.2, PacerBounds.msb_ofInt hy.1 hy.2]
  by_cases h1 : x < 0 <;> by_cases h2 : y < 0 <;> simp [h1, h2] <;> omega

theorem PacerBounds.range {a : Int} (h : (Lit.int .i64 a).wf = true) : -9223372036854775808 ≤ a ∧ a ≤ 9223372036854775807 := by
  simp only [Lit.wf, IntKind.min, IntKind.max, IntKind.signed, IntKind.bits, Bool.and_eq_true, decide_eq_true_eq, if_true] at h
  omega
theorem PacerBounds.w64 {x : Int} (h0 : -9223372036854775808 ≤ x) (h1 : x ≤ 9223372036854775807) : wrap64 x = x := by
  unfold wrap64; omega
theorem PacerBounds.wr (x : Int) : -9223372036854775808 ≤ wrap64 x ∧ wrap64 x ≤ 9223372036854775807 := by
  unfold wrap64; omega

/-- A number kept between the ends. -/
def PacerBounds.keep (x : Int) : Int := if x < -9223372036854775808 then -9223372036854775808 else if 9223372036854775807 < x then 9223372036854775807 else x

theorem PacerBounds.end_ (b : Bool) : sat_end.f b = some (if b = true then -9223372036854775808 else 9223372036854775807) := by
  cases b <;> rfl

theorem PacerBounds.add_ (a b : Int) (ha : -9223372036854775808 ≤ a ∧ a ≤ 9223372036854775807) (hb : -9223372036854775808 ≤ b ∧ b ≤ 9223372036854775807) :
    sat_Add.f a b = some (PacerBounds.keep (a + b)) := by
  unfold sat_Add.f
  have h1 := PacerBounds.xor_neg ha (PacerBounds.wr (a + b))
  have h2 := PacerBounds.xor_neg hb (PacerBounds.wr (a + b))
  have h3 := PacerBounds.and_neg (PacerBounds.bits_range .xor a (wrap64 (a + b))) (PacerBounds.bits_range .xor b (wrap64 (a + b)))
  rw [h1, h2] at h3
  have hw : wrap64 (a + b) = if a + b < -9223372036854775808 then a + b + 18446744073709551616 else if 9223372036854775807 < a + b then a + b - 18446744073709551616 else a + b := by
    unfold wrap64; (repeat' split) <;> omega
  clear h1 h2
  unfold PacerBounds.keep
  by_cases c1 : a + b < -9223372036854775808
  · rw [if_pos c1] at hw ⊢
    rw [if_pos (h3.mpr (by omega)), PacerBounds.end_]; simp only [Option.bind_some]; rw [if_pos (by simp; omega)]
  · rw [if_neg c1] at hw ⊢
    by_cases c2 : 9223372036854775807 < a + b
    · rw [if_pos c2] at hw ⊢
      rw [if_pos (h3.mpr (by omega)), PacerBounds.end_]; simp only [Option.bind_some]; rw [if_neg (by simp; omega)]
    · rw [if_neg c2] at hw ⊢
      rw [if_neg (fun h => by have := h3.mp h; omega), hw]

theorem PacerBounds.mask32 (z : Int) (h0 : 0 ≤ z) (h1 : z < 18446744073709551616) : Go.bits .and .u64 z 4294967295 = z % 4294967296 := by
  have h := bits_mask .u64 64 (by decide) (fun n h₀ h₁ => by rw [IntKind.wrap_u64]; omega) 32 (by decide) z h0 (by simpa using h1)
  simpa using h
theorem PacerBounds.mul64 (X Y : Nat) (hX : X < 18446744073709551616) (hY : Y < 18446744073709551616) :
    bits_Mul64.f (X : Int) (Y : Int) = some (((X * Y / 18446744073709551616 : Nat) : Int), ((X * Y % 18446744073709551616 : Nat) : Int)) := by
  unfold bits_Mul64.f
  obtain ⟨m1, m2, m3, m4⟩ := mul64_hi X Y hX hY
  have b11 := half_mul_le (a := X / 4294967296) (b := Y / 4294967296) (by omega) (by omega)
  have b10 := half_mul_le (a := X / 4294967296) (b := Y % 4294967296) (by omega) (by omega)
  have b01 := half_mul_le (a := X % 4294967296) (b := Y / 4294967296) (by omega) (by omega)
  have b00 := half_mul_le (a := X % 4294967296) (b := Y % 4294967296) (by omega) (by omega)
  rw [PacerBounds.mask32 (X : Int) (by omega) (by omega), PacerBounds.mask32 (Y : Int) (by omega) (by omega)]
  have e11 : (X : Int) / 4294967296 * ((Y : Int) / 4294967296) = ((X / 4294967296 * (Y / 4294967296) : Nat) : Int) := by simp
  have e10 : (X : Int) / 4294967296 * ((Y : Int) % 4294967296) = ((X / 4294967296 * (Y % 4294967296) : Nat) : Int) := by simp
  have e01 : (X : Int) % 4294967296 * ((Y : Int) / 4294967296) = ((X % 4294967296 * (Y / 4294967296) : Nat) : Int) := by simp
  have e00 : (X : Int) % 4294967296 * ((Y : Int) % 4294967296) = ((X % 4294967296 * (Y % 4294967296) : Nat) : Int) := by simp
  have exy : (X : Int) * (Y : Int) = ((X * Y : Nat) : Int) := by simp
  rw [e11, e10, e01, e00, exy]
  generalize X / 4294967296 * (Y / 4294967296) = p11 at *
  generalize X / 4294967296 * (Y % 4294967296) = p10 at *
  generalize X % 4294967296 * (Y / 4294967296) = p01 at *
  generalize X % 4294967296 * (Y % 4294967296) = p00 at *
  generalize X * Y = p at *
  simp only [IntKind.wrap_u64]
  rw [PacerBounds.mask32 _ (by omega) (by omega)]
  congr 2
  omega
theorem PacerBounds.size_ (a : Int) (ha : -9223372036854775808 ≤ a ∧ a ≤ 9223372036854775807) : sat_size.f a = some (a.natAbs : Int) := by
  unfold sat_size.f
  split
  · have e : IntKind.u64.wrap (-(IntKind.u64.wrap a)) = (a.natAbs : Int) := by rw [IntKind.wrap_u64, IntKind.wrap_u64]; omega
    rw [e]
  · have e : IntKind.u64.wrap a = (a.natAbs : Int) := by rw [IntKind.wrap_u64]; omega
    rw [e]

/-- A size with a sign, kept at its end. -/
def PacerBounds.ans (below : Bool) (T : Nat) : Int :=
  if below = true then (if 9223372036854775808 < T then -9223372036854775808 else -(T : Int)) else (if 9223372036854775808 ≤ T then 9223372036854775807 else (T : Int))

theorem PacerBounds.tail_ (T k : Nat) (s : Bool) (hT : T < 340282366920938463463374607431768211456) :
    (if ((T / 18446744073709551616 : Nat) : Int) > 0 then (sat_end.f s).bind fun t => some t else (sat_signed.f (k + 1) ((T % 18446744073709551616 : Nat) : Int) s).bind fun t => some t) = some (PacerBounds.ans s T) := by
  unfold PacerBounds.ans
  by_cases h : ((T / 18446744073709551616 : Nat) : Int) > 0
  · rw [if_pos h, PacerBounds.end_]
    cases s
    · rw [if_neg (by decide), if_neg (by decide), if_pos (by omega)]; rfl
    · rw [if_pos rfl, if_pos rfl, if_pos (by omega)]; rfl
  · rw [if_neg h]
    unfold sat_signed.f
    simp only [sat_signed.j0]
    have e : T % 18446744073709551616 = T := by omega
    rw [e]
    cases s
    · simp only [Bool.false_eq_true, if_false]
      by_cases h1 : 9223372036854775808 ≤ T
      · rw [if_pos (by omega), if_pos h1]; rfl
      · rw [if_neg (by omega), if_neg h1, PacerBounds.w64 (by omega) (by omega)]; rfl
    · simp only [if_true]
      by_cases h1 : 9223372036854775808 < T
      · rw [if_pos (by simp; omega), if_pos h1]; rfl
      · rw [if_neg h1]
        by_cases h2 : T = 9223372036854775808
        · subst h2; rfl
        · rw [if_neg (by simp; omega), PacerBounds.w64 (x := (T : Int)) (by omega) (by omega), PacerBounds.w64 (by omega) (by omega)]; rfl


/-- A product of numbers that are not below 0. -/
theorem PacerBounds.mulnn_ (a b : Int) (k : Nat) (ha : 0 ≤ a ∧ a ≤ 9223372036854775807) (hb : 0 ≤ b ∧ b ≤ 9223372036854775807) :
    sat_Mul.f (k + 1) a b = some (if 9223372036854775807 < a * b then 9223372036854775807 else a * b) := by
  unfold sat_Mul.f
  rw [PacerBounds.size_ a (by omega), PacerBounds.size_ b (by omega)]
  simp only [Option.bind_some]
  rw [PacerBounds.mul64 a.natAbs b.natAbs (by omega) (by omega)]
  simp only [Option.bind_some]
  rw [decide_eq_false (show ¬ a < 0 by omega), decide_eq_false (show ¬ b < 0 by omega)]
  have hT : a.natAbs * b.natAbs < 340282366920938463463374607431768211456 := by
    have h1 : a.natAbs * b.natAbs ≤ 9223372036854775808 * 9223372036854775808 := Nat.mul_le_mul (by omega) (by omega)
    omega
  have hab : a * b = ((a.natAbs * b.natAbs : Nat) : Int) := by
    rw [Int.natCast_mul, Int.natAbs_of_nonneg ha.1, Int.natAbs_of_nonneg hb.1]
  have ht := PacerBounds.tail_ (a.natAbs * b.natAbs) k false hT
  rw [hab]
  generalize a.natAbs * b.natAbs = T at *
  refine Eq.trans ht ?_
  unfold PacerBounds.ans
  rw [if_neg (by decide)]
  by_cases h : 9223372036854775808 ≤ T
  · rw [if_pos h, if_pos (by omega)]
  · rw [if_neg h, if_neg (by omega)]

theorem PacerBounds.clampm_ (x lo hi : Int) : sat_Clamp.f x lo hi = some (mx lo (mn x hi)) := rfl


theorem PacerBounds.mxmn (lo x hi : Int) (h : lo ≤ hi) : mx lo (mn x hi) = mn (mx x lo) hi := by unfold mx mn; (repeat' split) <;> omega
theorem PacerBounds.mn_ (a b : Int) : mn a b = if b < a then b else a := rfl
theorem PacerBounds.mx_ (a b : Int) : mx a b = if a < b then b else a := rfl
theorem PacerBounds.kk (x : Int) (h0 : -9223372036854775808 ≤ x) (h1 : x ≤ 9223372036854775807) : PacerBounds.keep x = x := by unfold PacerBounds.keep; rw [if_neg (by omega), if_neg (by omega)]

/-- A bucket within its ends. -/
def PacerBounds.ok (r b l t : Int) : Prop := 1 ≤ r ∧ r ≤ 1099511627776 ∧ 1 ≤ b ∧ b ≤ 1099511627776 ∧ -2305843009213693952 ≤ l ∧ l ≤ b * 1000000 ∧ 0 ≤ t ∧ t ≤ 1125899906842624

theorem PacerBounds.within_ (r b l t : Int) (h : PacerBounds.ok r b l t) : pacer_within.f r b l t = some (r, b, l, t) := by
  obtain ⟨h1, h2, h3, h4, h5, h6, h7, h8⟩ := h
  unfold pacer_within.f
  have e : ∀ lo x hi : Int, lo ≤ x → x ≤ hi → mx lo (mn x hi) = x := fun lo x hi p q => by unfold mx mn; (repeat' split) <;> omega
  rw [e 1 r _ h1 h2, e 1 b _ h3 h4, PacerBounds.w64 (x := b * 1000000) (by omega) (by omega), e _ l _ h5 h6, e _ t _ h7 h8]

/-- What within tells of any bucket. -/
theorem PacerBounds.within2 (r b l t : Int) : ∃ r' b' l' t', pacer_within.f r b l t = some (r', b', l', t') ∧ PacerBounds.ok r' b' l' t' ∧ r' = mn (mx r 1) 1099511627776 ∧ b' = mn (mx b 1) 1099511627776 ∧ l' = mn (mx l (-2305843009213693952)) (b' * 1000000) ∧ t' = mn (mx t 0) 1125899906842624 := by
  have hb : 1 ≤ mn (mx b 1) 1099511627776 ∧ mn (mx b 1) 1099511627776 ≤ 1099511627776 := by unfold mx mn; (repeat' split) <;> omega
  have hr : 1 ≤ mn (mx r 1) 1099511627776 ∧ mn (mx r 1) 1099511627776 ≤ 1099511627776 := by unfold mx mn; (repeat' split) <;> omega
  have ht : 0 ≤ mn (mx t 0) 1125899906842624 ∧ mn (mx t 0) 1125899906842624 ≤ 1125899906842624 := by unfold mx mn; (repeat' split) <;> omega
  refine ⟨mn (mx r 1) 1099511627776, mn (mx b 1) 1099511627776, mn (mx l (-2305843009213693952)) (mn (mx b 1) 1099511627776 * 1000000), mn (mx t 0) 1125899906842624, ?_, ?_, rfl, rfl, rfl, rfl⟩
  · unfold pacer_within.f
    rw [PacerBounds.mxmn 1 r _ (by omega), PacerBounds.mxmn 1 b _ (by omega), PacerBounds.mxmn 0 t _ (by omega)]
    generalize mn (mx b 1) 1099511627776 = b' at *
    rw [PacerBounds.w64 (x := b' * 1000000) (by omega) (by omega), PacerBounds.mxmn _ l _ (by omega)]
  · generalize mn (mx b 1) 1099511627776 = b' at *
    refine ⟨hr.1, hr.2, hb.1, hb.2, ?_, ?_, ht.1, ht.2⟩ <;> (unfold mx mn; (repeat' split) <;> omega)

/-- The level behind so many ticks. -/
def PacerBounds.lev (r b l d : Int) : Int := if b * 1000000 < l + r * d then b * 1000000 else l + r * d

theorem PacerBounds.fill_ (r b l t now : Int) (k : Nat) (h : PacerBounds.ok r b l t) (hn : 0 ≤ now ∧ now ≤ 1125899906842624) :
    pacer_Fill.f (k + 1) r b l t now = some (r, b, (if t < now then PacerBounds.lev r b l (now - t) else l), (if t < now then now else t)) := by
  have hw := PacerBounds.within_ r b l t h
  obtain ⟨h1, h2, h3, h4, h5, h6, h7, h8⟩ := h
  unfold pacer_Fill.f
  rw [hw, PacerBounds.clampm_]
  have e : mx 0 (mn now 1125899906842624) = now := by unfold mx mn; (repeat' split) <;> omega
  simp only [Option.bind_some]
  rw [e]
  by_cases c : t < now
  · rw [if_pos (show now > t by omega), if_pos c, if_pos c, PacerBounds.w64 (x := now - t) (by omega) (by omega), PacerBounds.mulnn_ r (now - t) k (by omega) (by omega)]
    simp only [Option.bind_some]
    have hp : 0 ≤ r * (now - t) := Int.mul_nonneg (by omega) (by omega)
    unfold PacerBounds.lev
    generalize r * (now - t) = p at *
    rw [PacerBounds.add_ l _ (by omega) (by split <;> omega)]
    simp only [Option.bind_some]
    rw [PacerBounds.w64 (x := b * 1000000) (by omega) (by omega), PacerBounds.mn_]
    congr 3
    unfold PacerBounds.keep
    (repeat' split) <;> first | omega | rfl | (congr 1; omega; done) | (congr 1; done)
  · rw [if_neg (show ¬ now > t by omega), if_neg c, if_neg c]

theorem PacerBounds.need_ (r b l t size : Int) (hb : 1 ≤ b ∧ b ≤ 1099511627776) : pacer_need.f r b l t size = some (mn (mx size 0) b * 1000000) := by
  unfold pacer_need.f
  rw [PacerBounds.clampm_, PacerBounds.mxmn 0 size b (by omega)]
  simp only [Option.bind_some]
  have : 0 ≤ mn (mx size 0) b ∧ mn (mx size 0) b ≤ b := by unfold mx mn; (repeat' split) <;> omega
  rw [PacerBounds.w64 (by omega) (by omega)]

def PacerBounds.sat_Mod.f (a0 : Int) (a1 : Int) : Option (Int) := if a1 ≤ 0 then (some 0) else (if a1 = 0 then (none) else (if (Int.tmod a0 a1) < 0 then (some (wrap64 ((Int.tmod a0 a1) + a1))) else (some (Int.tmod a0 a1))))
/-- What is known of a quotient and a rest. -/
theorem PacerBounds.parts (a b : Int) (hb : b ≠ 0) : a = a.tdiv b * b + a.tmod b ∧ (0 ≤ a → 0 ≤ a.tmod b) ∧ (a ≤ 0 → a.tmod b ≤ 0) ∧ (a.tmod b).natAbs < b.natAbs ∧ (a.tdiv b).natAbs ≤ a.natAbs := by
  refine ⟨by have := Int.mul_tdiv_add_tmod a b; rw [Int.mul_comm]; omega, fun h => Int.tmod_nonneg b h, fun h => ?_, ?_, ?_⟩
  · have h2 := Int.tmod_nonneg b (show 0 ≤ -a by omega)
    rw [Int.neg_tmod] at h2; omega
  · rw [Int.natAbs_tmod]; exact Nat.mod_lt _ (by omega)
  · rw [Int.natAbs_tdiv]; exact Nat.div_le_self _ _

/-- Quotient and rest of a divisor above 0. -/
theorem PacerBounds.div_ (a b : Int) (k : Nat) (ha : -9223372036854775808 ≤ a ∧ a ≤ 9223372036854775807) (hb : 0 < b ∧ b ≤ 9223372036854775807) :
    ∃ q r, sat_Div.f (k + 1) a b = some q ∧ PacerBounds.sat_Mod.f a b = some r ∧ 0 ≤ r ∧ r < b ∧ q * b + r = a := by
  obtain ⟨e, p1, p2, p3, p4⟩ := PacerBounds.parts a b (by omega)
  unfold sat_Div.f PacerBounds.sat_Mod.f
  have l : (if a = -9223372036854775808 then sat_Div.j0 (k + 1) a b (b == -1) else sat_Div.j0 (k + 1) a b false) = sat_Div.j0 (k + 1) a b false := by
    rw [show (b == -1) = false by simp; omega]; split <;> rfl
  rw [if_neg (by omega), l]
  simp only [sat_Div.j0]
  rw [if_neg (by decide), if_neg (by omega), if_neg (show ¬ b ≤ 0 by omega), if_neg (show ¬ b = 0 by omega)]
  have hs : a < 0 → a.tdiv b ≤ 0 := fun h => by
    have h2 := Int.tdiv_nonneg (show 0 ≤ -a by omega) (show 0 ≤ b by omega)
    rw [Int.neg_tdiv] at h2; omega
  have w1 : wrap64 (a.tdiv b) = a.tdiv b := PacerBounds.w64 (by omega) (by omega)
  have hd : decide (b < 0) = false := by simp; omega
  rw [w1, hd]
  by_cases h2 : a.tmod b = 0
  · rw [if_pos h2, if_neg (show ¬ a.tmod b < 0 by omega)]
    exact ⟨_, _, rfl, rfl, by omega, by omega, by omega⟩
  · rw [if_neg h2]
    by_cases h3 : a < 0
    · rw [if_pos (by simpa using h3), if_pos (by omega)]
      have hlow : -9223372036854775808 < a.tdiv b := by
        have h4 : (a.tdiv b).natAbs * b.natAbs ≤ a.natAbs := by
          rw [Int.natAbs_tdiv]; exact Nat.div_mul_le_self _ _
        by_cases h5 : b = 1
        · subst h5; have := Int.tmod_one a; omega
        · have h6 := Nat.mul_le_mul_left (a.tdiv b).natAbs (show 2 ≤ b.natAbs by omega)
          omega
      refine ⟨_, _, rfl, rfl, ?_, ?_, ?_⟩
      · rw [PacerBounds.w64 (by omega) (by omega)]; omega
      · rw [PacerBounds.w64 (by omega) (by omega)]; omega
      · rw [PacerBounds.w64 (by omega) (by omega), PacerBounds.w64 (by omega) (by omega), Int.sub_mul]; omega
    · rw [if_neg (by simpa using h3), if_neg (by omega)]
      exact ⟨_, _, rfl, rfl, by omega, by omega, by omega⟩


/-- A quotient, downwards. -/
theorem PacerBounds.divp_ (a b : Int) (k : Nat) (ha : -9223372036854775808 ≤ a ∧ a ≤ 9223372036854775807) (hb : 0 < b ∧ b ≤ 9223372036854775807) : sat_Div.f (k + 1) a b = some (a / b) := by
  obtain ⟨q, r, e1, _, h0, h1, h2⟩ := PacerBounds.div_ a b k ha hb
  have : a / b = q := by
    rw [← h2, Int.mul_comm q b, Int.add_comm, Int.add_mul_ediv_left _ _ (by omega), Int.ediv_eq_zero_of_lt h0 h1, Int.zero_add]
  rw [e1, this]

theorem PacerBounds.fillG (r b l t x : Int) (k : Nat) (h : PacerBounds.ok r b l t) (hx : t ≤ x ∧ x ≤ 1125899906842624) :
    pacer_Fill.f (k + 1) r b l t x = some (r, b, PacerBounds.lev r b l (x - t), x) := by
  rw [PacerBounds.fill_ r b l t x k h ⟨by have := h.2.2.2.2.2.2.1; omega, hx.2⟩]
  by_cases c : t < x
  · rw [if_pos c, if_pos c]
  · have e : x = t := by omega
    subst e
    have h6 := h.2.2.2.2.2.1
    have hl : PacerBounds.lev r b l (x - x) = l := by
      unfold PacerBounds.lev
      rw [show x - x = 0 by omega, Int.mul_zero, if_neg (by omega)]; omega
    rw [if_neg c, if_neg c, hl]

theorem PacerBounds.lev_le (r b l d : Int) : PacerBounds.lev r b l d ≤ b * 1000000 ∧ PacerBounds.lev r b l d ≤ l + r * d ∧ (PacerBounds.lev r b l d = b * 1000000 ∨ PacerBounds.lev r b l d = l + r * d) := by
  unfold PacerBounds.lev
  split
  · exact ⟨by omega, by omega, Or.inl rfl⟩
  · exact ⟨by omega, by omega, Or.inr rfl⟩

theorem PacerBounds.when_ (r b l t now size : Int) (k : Nat) (h : PacerBounds.ok r b l t) (hn : 0 ≤ now ∧ now ≤ 1125899906842624) :
    ∃ c : Int, pacer_When.f (k + 1) r b l t now size = some (mx now t + c) ∧ 0 ≤ c ∧ c ≤ 3500000000000000000 ∧
      mn (mx size 0) b * 1000000 ≤ PacerBounds.lev r b l (mx now t - t) + r * c ∧
      (0 < c → PacerBounds.lev r b l (mx now t - t) + r * (c - 1) < mn (mx size 0) b * 1000000) := by
  have hb : 1 ≤ b ∧ b ≤ 1099511627776 := ⟨h.2.2.1, h.2.2.2.1⟩
  have hz : 0 ≤ mn (mx size 0) b ∧ mn (mx size 0) b ≤ b := by unfold mx mn; (repeat' split) <;> omega
  have hf : pacer_Fill.f (k + 1) r b l t now = some (r, b, PacerBounds.lev r b l (mx now t - t), mx now t) := by
    by_cases c : t ≤ now
    · have e : mx now t = now := by unfold mx; (repeat' split) <;> omega
      rw [e, PacerBounds.fillG r b l t now k h ⟨c, by omega⟩]
    · have e : mx now t = t := by unfold mx; (repeat' split) <;> omega
      have h6 := h.2.2.2.2.2.1
      have hl : PacerBounds.lev r b l (t - t) = l := by
        unfold PacerBounds.lev
        rw [show t - t = 0 by omega, Int.mul_zero, if_neg (by omega)]; omega
      rw [e, hl, PacerBounds.fill_ r b l t now k h ⟨hn.1, by omega⟩, if_neg (by omega), if_neg (by omega)]
  have ha : 0 ≤ mx now t ∧ mx now t ≤ 1125899906842624 := by
    have := h.2.2.2.2.2.2
    unfold mx; split <;> omega
  have hd : 0 ≤ mx now t - t := by unfold mx; split <;> omega
  have hL := PacerBounds.lev_le r b l (mx now t - t)
  have hp : 0 ≤ r * (mx now t - t) := Int.mul_nonneg (by have := h.1; omega) hd
  obtain ⟨h1, h2, h3, h4, h5, h6, h7, h8⟩ := h
  have hLo : -2305843009213693952 ≤ PacerBounds.lev r b l (mx now t - t) := by
    rcases hL.2.2 with e | e <;> omega
  unfold pacer_When.f
  rw [hf, Option.bind_some]
  dsimp only
  rw [PacerBounds.need_ _ _ _ _ size hb, Option.bind_some]
  generalize mn (mx size 0) b = z at *
  generalize PacerBounds.lev r b l (mx now t - t) = L at *
  generalize mx now t = a at *
  rw [PacerBounds.w64 (x := z * 1000000 - L) (by omega) (by omega)]
  by_cases c : z * 1000000 - L > 0
  · rw [if_pos c, PacerBounds.w64 (x := -(z * 1000000 - L)) (by omega) (by omega), PacerBounds.divp_ (-(z * 1000000 - L)) r k (by omega) (by omega), Option.bind_some]
    have hdm := Int.mul_ediv_add_emod (-(z * 1000000 - L)) r
    have hm0 := Int.emod_nonneg (-(z * 1000000 - L)) (show r ≠ 0 by omega)
    have hm1 := Int.emod_lt_of_pos (-(z * 1000000 - L)) (show 0 < r by omega)
    generalize (-(z * 1000000 - L)) % r = m at *
    generalize (-(z * 1000000 - L)) / r = q at *
    have hq1 : q < 0 := by
      by_cases hq : q < 0
      · exact hq
      · have := Int.mul_nonneg (show 0 ≤ r by omega) (show 0 ≤ q by omega); omega
    have hq2 : -3500000000000000000 ≤ q := by
      have : r * (q + 1) ≤ 1 * (q + 1) := Int.mul_le_mul_of_nonpos_right (by omega) (by omega)
      rw [Int.mul_add] at this; omega
    refine ⟨-q, ?_, by omega, by omega, ?_, fun _ => ?_⟩
    · rw [PacerBounds.w64 (x := a - q) (by omega) (by omega)]; rfl
    · rw [Int.mul_neg]; omega
    · rw [Int.mul_sub, Int.mul_neg]; omega
  · rw [if_neg c]
    refine ⟨0, by rw [Int.add_zero], by omega, by omega, by rw [Int.mul_zero]; omega, fun h => by omega⟩


theorem PacerBounds.lev0 (r b l : Int) (h : l ≤ b * 1000000) (t : Int) : PacerBounds.lev r b l (t - t) = l := by
  unfold PacerBounds.lev
  rw [show t - t = 0 by omega, Int.mul_zero, if_neg (by omega)]; omega

theorem PacerBounds.rd_ (l : List Int) (h : ∀ x ∈ l, (Lit.int .u16 x).wf = true) (i : Int) : 0 ≤ rd l i ∧ rd l i ≤ 65535 := by
  unfold rd
  rw [List.getD_eq_getElem?_getD]
  rcases Nat.lt_or_ge i.toNat l.length with hlt | hge
  · rw [List.getElem?_eq_getElem hlt, Option.getD_some]
    have := h _ (List.getElem_mem hlt)
    simp only [Lit.wf, IntKind.min, IntKind.max, IntKind.signed, IntKind.bits, Bool.and_eq_true] at this
    simpa using this
  · rw [List.getElem?_eq_none hge]; exact ⟨by decide, by decide⟩
theorem PacerBounds.rd_app (S : List Int) (z : Int) (j : Nat) (h : j < S.length) : rd (S ++ [z]) (j : Int) = rd S (j : Int) := by
  unfold rd
  rw [Int.toNat_natCast, List.getD_eq_getElem?_getD, List.getD_eq_getElem?_getD, List.getElem?_append_left h]
theorem PacerBounds.rd_last (S : List Int) (z : Int) : rd (S ++ [z]) (S.length : Int) = z := by
  unfold rd
  rw [Int.toNat_natCast, List.getD_eq_getElem?_getD, List.getElem?_append_right (Nat.le_refl _), Nat.sub_self]; rfl

/-- The sum of the first ones. -/
def PacerBounds.P (S : List Int) : Nat → Int
  | 0 => 0
  | i + 1 => PacerBounds.P S i + rd S (i : Int)
theorem PacerBounds.P_app (S : List Int) (z : Int) (j : Nat) (h : j ≤ S.length) : PacerBounds.P (S ++ [z]) j = PacerBounds.P S j := by
  induction j with
  | zero => rfl
  | succ j ih => simp only [PacerBounds.P]; rw [ih (by omega), PacerBounds.rd_app S z j (by omega)]
theorem PacerBounds.P_ok (S : List Int) (n : Nat) (h : ∀ i : Nat, i < n → 0 ≤ rd S (i : Int) ∧ rd S (i : Int) ≤ 65536) (j : Nat) (hj : j ≤ n) : 0 ≤ PacerBounds.P S j ∧ PacerBounds.P S j ≤ j * 65536 := by
  induction j with
  | zero => exact ⟨by simp [PacerBounds.P], by simp [PacerBounds.P]⟩
  | succ j ih =>
    have h1 := ih (by omega)
    have h2 := h j (by omega)
    simp only [PacerBounds.P]
    omega
theorem PacerBounds.P_le (S : List Int) (n : Nat) (h : ∀ i : Nat, i < n → 0 ≤ rd S (i : Int) ∧ rd S (i : Int) ≤ 65536) (i j : Nat) (hi : i ≤ j) (hj : j ≤ n) : PacerBounds.P S i ≤ PacerBounds.P S j := by
  induction j with
  | zero => have : i = 0 := by omega
            rw [this]; exact Int.le_refl _
  | succ j ih =>
    by_cases e : i = j + 1
    · rw [e]; exact Int.le_refl _
    · have h1 := ih (by omega) (by omega)
      have h2 := h j (by omega)
      simp only [PacerBounds.P]
      omega

/-- What the bounds are checked of. -/
structure PacerBounds.Chk (A S : List Int) (R B T : Int) (n : Nat) : Prop where
  hA : A.length = n
  hS : S.length = n
  hn : n ≤ 40
  hR : 1 ≤ R ∧ R ≤ 4294967296
  hB : 1 ≤ B ∧ B ≤ 65536
  hT : R * T ≤ 2800000000000
  tA : ∀ i : Nat, i < n → 0 ≤ rd A (i : Int) ∧ rd A (i : Int) ≤ T
  tS : ∀ i : Nat, i < n → 0 ≤ rd S (i : Int) ∧ rd S (i : Int) ≤ 65536
  hT2 : 0 ≤ T ∧ T ≤ 35184372088832
  inv : ∀ i k : Nat, i ≤ k → k < n → (PacerBounds.P S (k + 1) - PacerBounds.P S i - B) * 1000000 ≤ R * (rd A (k : Int) - rd A (i : Int))

theorem PacerBounds.chk_ (p q s a c R B T : Int) (h1 : 0 ≤ q ∧ q ≤ p) (_h2 : p ≤ 2621440) (h3 : 0 ≤ s ∧ s ≤ 65536) (hB : 1 ≤ B ∧ B ≤ 65536) (ha : 0 ≤ a ∧ a ≤ T) (hc : 0 ≤ c ∧ c ≤ T) (hT : 0 ≤ T ∧ T ≤ 35184372088832) (hR : 1 ≤ R ∧ R ≤ 4294967296) (hRT : R * T ≤ 2800000000000)
    (hi : (p + s - q - B) * 1000000 ≤ R * (a - c)) :
    ¬ (wrap64 ((wrap64 ((wrap64 (p - q + s)) - B)) * 1000000)) > (wrap64 (R * (wrap64 (a - c)))) := by
  have hup : R * (a - c) ≤ R * T := Int.mul_le_mul_of_nonneg_left (by omega) (by omega)
  have hdn : R * (-T) ≤ R * (a - c) := Int.mul_le_mul_of_nonneg_left (by omega) (by omega)
  rw [Int.mul_neg] at hdn
  rw [PacerBounds.w64 (x := p - q + s) (by omega) (by omega), PacerBounds.w64 (x := p - q + s - B) (by omega) (by omega), PacerBounds.w64 (x := a - c) (by omega) (by omega)]
  generalize R * (a - c) = V at *
  generalize R * T = U at *
  rw [PacerBounds.w64 (x := (p - q + s - B) * 1000000) (by omega) (by omega), PacerBounds.w64 (x := V) (by omega) (by omega)]
  omega

theorem PacerBounds.l2_ (A S : List Int) (R B T : Int) (n : Nat) (h : PacerBounds.Chk A S R B T n) (x : Int) (i : Nat) (K : Nat) (L t : Int) :
    ∀ d m : Nat, m + d = n → i ≤ m → i < n → leatlaw23_PacerBounds.l2 (K + d + 1) A S (i : Int) (PacerBounds.P S m - PacerBounds.P S i) (m : Int) x (i : Int) R B L t = leatlaw23_PacerBounds.l1 K A S x (wrap64 ((i : Int) + 1)) R B L t := by
  have hA := h.hA
  have hS := h.hS
  have hn := h.hn
  have hR := h.hR
  have hB := h.hB
  intro d
  induction d with
  | zero =>
    intro m hm _ _
    rw [leatlaw23_PacerBounds.l2, if_neg (by omega)]
  | succ d ih =>
    intro m hm him hin
    have hnx := ih (m + 1) (by omega) (by omega) hin
    have e : K + (d + 1) + 1 = (K + d + 1) + 1 := by omega
    have e4 : wrap64 ((m : Int) + 1) = ((m + 1 : Nat) : Int) := by rw [PacerBounds.w64 (by omega) (by omega)]; omega
    rw [e, leatlaw23_PacerBounds.l2, if_pos (by omega), if_pos (by omega), if_pos (by omega), if_pos (by omega), if_pos (by omega)]
    have hs := h.tS m (by omega)
    have hp1 := PacerBounds.P_ok S n h.tS m (by omega)
    have hp2 := PacerBounds.P_ok S n h.tS i (by omega)
    have hp3 := PacerBounds.P_le S n h.tS i m him (by omega)
    have hinv := h.inv i m him (by omega)
    have hP : PacerBounds.P S (m + 1) = PacerBounds.P S m + rd S (m : Int) := rfl
    have e5 : wrap64 (PacerBounds.P S m - PacerBounds.P S i + rd S (m : Int)) = PacerBounds.P S (m + 1) - PacerBounds.P S i := by rw [PacerBounds.w64 (by omega) (by omega)]; omega
    rw [hP] at hinv
    rw [if_neg (PacerBounds.chk_ (PacerBounds.P S m) (PacerBounds.P S i) (rd S (m : Int)) (rd A (m : Int)) (rd A (i : Int)) R B T ⟨hp2.1, hp3⟩ (by omega) hs hB (h.tA m (by omega)) (h.tA i hin) h.hT2 hR h.hT hinv), e5, e4]
    exact hnx

theorem PacerBounds.l1_ (A S : List Int) (R B T : Int) (n : Nat) (h : PacerBounds.Chk A S R B T n) (L t : Int) :
    ∀ e i K : Nat, i + e = n → leatlaw23_PacerBounds.l1 (K + 50 * e + 6) A S (n : Int) (i : Int) R B L t = some true := by
  have hn := h.hn
  intro e
  induction e with
  | zero =>
    intro i K hi
    have hw : leatlaw23_works.f (K + 5) = some true := by kernel_rfl
    have e1 : K + 50 * 0 + 6 = (K + 5) + 1 := by omega
    rw [e1, leatlaw23_PacerBounds.l1, if_neg (by omega), hw, Option.bind_some]
  | succ e ih =>
    intro i K hi
    have e1 : K + 50 * (e + 1) + 6 = ((K + 48 - (n - i) + 50 * e + 6) + (n - i) + 1) + 1 := by omega
    have h2 := PacerBounds.l2_ A S R B T n h (n : Int) i (K + 48 - (n - i) + 50 * e + 6) L t (n - i) i (by omega) (Nat.le_refl _) (by omega)
    have h3 := ih (i + 1) (K + 48 - (n - i)) (by omega)
    have e4 : wrap64 ((i : Int) + 1) = ((i + 1 : Nat) : Int) := by rw [PacerBounds.w64 (by omega) (by omega)]; omega
    have e5 : PacerBounds.P S i - PacerBounds.P S i = 0 := by omega
    rw [e5] at h2
    rw [e1, leatlaw23_PacerBounds.l1, if_pos (by omega), h2, e4]
    exact h3

/-- One size: when it goes, and what is left then. -/
theorem PacerBounds.take_ (R B L t z : Int) (k : Nat) (hR : 1 ≤ R ∧ R ≤ 4294967296) (hB : 1 ≤ B ∧ B ≤ 65536) (hL : 0 ≤ L ∧ L ≤ B * 1000000) (ht : 0 ≤ t ∧ t ≤ 35184372088832) (hz : 0 ≤ z ∧ z ≤ B) :
    ∃ q M : Int, pacer_When.f (k + 1) R B L t t z = some (t + q) ∧ 0 ≤ q ∧ R * q ≤ 70000000000 ∧ 0 ≤ M ∧ M + z * 1000000 ≤ B * 1000000 ∧ M + z * 1000000 ≤ L + R * q ∧
      (t + q ≤ 35184372088832 → pacer_Spend.f (k + 1) R B L t (t + q) z = some (R, B, M, t + q)) := by
  have hok : PacerBounds.ok R B L t := ⟨hR.1, by omega, hB.1, by omega, by omega, hL.2, ht.1, by omega⟩
  have hzz : mn (mx z 0) B = z := by unfold mn mx; (repeat' split) <;> omega
  have hmx : mx t t = t := by unfold mx; split <;> omega
  obtain ⟨q, e3, q0, q1, q2, q3⟩ := PacerBounds.when_ R B L t t z k hok ⟨ht.1, by omega⟩
  rw [hzz, hmx, PacerBounds.lev0 R B L hL.2 t] at q2 q3
  rw [hmx] at e3
  have hlv := PacerBounds.lev_le R B L q
  have hRq : R * q ≤ 70000000000 := by
    by_cases hq : 0 < q
    · have := q3 hq
      rw [Int.mul_sub] at this; omega
    · have : q = 0 := by omega
      rw [this]; omega
  have hge : z * 1000000 ≤ PacerBounds.lev R B L q := by rcases hlv.2.2 with h | h <;> omega
  refine ⟨q, PacerBounds.lev R B L q - z * 1000000, e3, q0, hRq, by omega, by omega, by omega, fun g => ?_⟩
  unfold pacer_Spend.f
  rw [PacerBounds.fillG R B L t (t + q) k hok ⟨by omega, by omega⟩, Option.bind_some]
  dsimp only
  rw [PacerBounds.need_ R B _ _ z ⟨hB.1, by omega⟩, Option.bind_some, hzz, show t + q - t = q by omega]
  generalize PacerBounds.lev R B L q = V at *
  rw [PacerBounds.w64 (by omega) (by omega)]
  have : mx (V - z * 1000000) (-2305843009213693952) = V - z * 1000000 := by unfold mx; split <;> omega
  rw [this]

/-- What stands of the bucket and of what went. -/
structure PacerBounds.Inv (A S : List Int) (R B L t : Int) (n : Nat) : Prop where
  hA : A.length = n
  hS : S.length = n
  hL : 0 ≤ L ∧ L ≤ B * 1000000
  ht : 0 ≤ t ∧ t ≤ 35184372088832
  hRt : R * t ≤ n * 70000000000
  tA : ∀ i : Nat, i < n → 0 ≤ rd A (i : Int) ∧ rd A (i : Int) ≤ t
  tS : ∀ i : Nat, i < n → 0 ≤ rd S (i : Int) ∧ rd S (i : Int) ≤ 65536
  h2 : ∀ i : Nat, i < n → L + (PacerBounds.P S n - PacerBounds.P S i) * 1000000 ≤ B * 1000000 + R * (t - rd A (i : Int))
  h1 : ∀ i k : Nat, i ≤ k → k < n → (PacerBounds.P S (k + 1) - PacerBounds.P S i - B) * 1000000 ≤ R * (rd A (k : Int) - rd A (i : Int))

theorem PacerBounds.step_ (A S : List Int) (R B L t : Int) (n : Nat) (h : PacerBounds.Inv A S R B L t n) (hB : 1 ≤ B ∧ B ≤ 65536) (q z M : Int) (q0 : 0 ≤ q) (hz : 0 ≤ z ∧ z ≤ B) (hRq : R * q ≤ 70000000000) (hq : t + q ≤ 35184372088832) (hM0 : 0 ≤ M) (hM1 : M + z * 1000000 ≤ B * 1000000) (hM2 : M + z * 1000000 ≤ L + R * q) :
    PacerBounds.Inv (A ++ [t + q]) (S ++ [z]) R B M (t + q) (n + 1) := by
  have hA := h.hA
  have hS := h.hS
  have hPn : PacerBounds.P (S ++ [z]) (n + 1) = PacerBounds.P S n + z := by
    have : PacerBounds.P (S ++ [z]) (n + 1) = PacerBounds.P (S ++ [z]) n + rd (S ++ [z]) (n : Int) := rfl
    rw [this, PacerBounds.P_app S z n (by omega), ← hS, PacerBounds.rd_last]
  have hAl : rd (A ++ [t + q]) (n : Int) = t + q := by rw [← hA, PacerBounds.rd_last]
  have hSl : rd (S ++ [z]) (n : Int) = z := by rw [← hS, PacerBounds.rd_last]
  have k2 : ∀ i : Nat, i < n + 1 → M + (PacerBounds.P (S ++ [z]) (n + 1) - PacerBounds.P (S ++ [z]) i) * 1000000 ≤ B * 1000000 + R * ((t + q) - rd (A ++ [t + q]) (i : Int)) := by
    intro i hi
    by_cases e : i = n
    · rw [e, hAl, hPn, PacerBounds.P_app S z n (by omega), show t + q - (t + q) = 0 by omega, Int.mul_zero]
      generalize PacerBounds.P S n = p
      omega
    · have h9 := h.h2 i (by omega)
      rw [PacerBounds.rd_app A (t + q) i (by omega), hPn, PacerBounds.P_app S z i (by omega)]
      have e2 : R * (t + q - rd A (i : Int)) = R * (t - rd A (i : Int)) + R * q := by rw [show t + q - rd A (i : Int) = (t - rd A (i : Int)) + q by omega, Int.mul_add]
      rw [e2]
      generalize R * (t - rd A (i : Int)) = u at *
      generalize R * q = v at *
      generalize PacerBounds.P S n = p at *
      generalize PacerBounds.P S i = p2 at *
      clear e2
      omega
  refine ⟨by rw [List.length_append, hA]; rfl, by rw [List.length_append, hS]; rfl, ⟨hM0, by omega⟩, ⟨by have := h.ht; omega, hq⟩, ?_, ?_, ?_, k2, ?_⟩
  · have := h.hRt
    rw [Int.mul_add]
    generalize R * t = u at *
    generalize R * q = v at *
    omega
  · intro i hi
    by_cases e : i = n
    · rw [e, hAl]; have := h.ht; omega
    · have := h.tA i (by omega)
      rw [PacerBounds.rd_app A (t + q) i (by omega)]; omega
  · intro i hi
    by_cases e : i = n
    · rw [e, hSl]; omega
    · have := h.tS i (by omega)
      rw [PacerBounds.rd_app S z i (by omega)]; omega
  · intro i k hik hk
    by_cases e : k = n
    · have h9 := k2 i (by omega)
      rw [e, hAl]
      generalize R * (t + q - rd (A ++ [t + q]) (i : Int)) = u at *
      generalize PacerBounds.P (S ++ [z]) (n + 1) = p at *
      generalize PacerBounds.P (S ++ [z]) i = p2 at *
      omega
    · rw [PacerBounds.P_app S z (k + 1) (by omega), PacerBounds.P_app S z i (by omega), PacerBounds.rd_app A (t + q) i (by omega), PacerBounds.rd_app A (t + q) k (by omega)]
      exact h.h1 i k hik (by omega)

theorem PacerBounds.stop_ (l : List Int) (R B : Int) (hR : 1 ≤ R ∧ R ≤ 4294967296) (hB : 1 ≤ B ∧ B ≤ 65536) (n : Nat) (A S : List Int) (L t : Int) (hn : n ≤ 40) (h : PacerBounds.Inv A S R B L t n) (K : Nat) :
    leatlaw23_PacerBounds.j1 (K + 2090) l t A S (n : Int) false R B L t = some true := by
  have hRt := h.hRt
  have hc : PacerBounds.Chk A S R B t n := ⟨h.hA, h.hS, hn, hR, hB, by omega, h.tA, h.tS, h.ht, h.h1⟩
  have hh := PacerBounds.l1_ A S R B t n hc L t n 0 (K + 2089 - (50 * n + 6)) (by omega)
  have e1 : K + 2090 = (K + 2089 - (50 * n + 6) + 50 * n + 6) + 1 := by omega
  rw [e1, leatlaw23_PacerBounds.j1, if_neg (by decide), h.hA]
  exact hh

theorem PacerBounds.works_ (k : Nat) : leatlaw23_works.f (k + 5) = some true := by kernel_rfl

theorem PacerBounds.loop (l : List Int) (hl : ∀ x ∈ l, (Lit.int .u16 x).wf = true) (R B : Int) (hR : 1 ≤ R ∧ R ≤ 4294967296) (hB : 1 ≤ B ∧ B ≤ 65536) :
    ∀ (d n : Nat) (A S : List Int) (L t : Int) (K : Nat), n + d = 40 → PacerBounds.Inv A S R B L t n →
      leatlaw23_PacerBounds.l0 (K + 2 * d + 2100) l t A S (n : Int) R B L t = some true := by
  intro d
  induction d with
  | zero =>
    intro n A S L t K hd h
    have hs := PacerBounds.stop_ l R B hR hB n A S L t (by omega) h (K + 9)
    have e1 : K + 2 * 0 + 2100 = (K + 9 + 2090) + 1 := by omega
    rw [e1, leatlaw23_PacerBounds.l0]
    by_cases c : (n : Int) < (l.length : Int)
    · rw [if_pos c, decide_eq_false (by omega)]; exact hs
    · rw [if_neg c]; exact hs
  | succ d ih =>
    intro n A S L t K hd h
    have hs := PacerBounds.stop_ l R B hR hB n A S L t (by omega) h (K + 2 * d + 11)
    have e1 : K + 2 * (d + 1) + 2100 = (K + 2 * d + 11 + 2090) + 1 := by omega
    rw [e1, leatlaw23_PacerBounds.l0]
    by_cases c : (n : Int) < (l.length : Int)
    · rw [if_pos c, decide_eq_true (by omega)]
      have e2 : K + 2 * d + 11 + 2090 = (K + 2 * d + 2100) + 1 := by omega
      have hr := PacerBounds.rd_ l hl (n : Int)
      rw [e2, leatlaw23_PacerBounds.j1, if_pos rfl, if_pos (by omega), if_pos c, PacerBounds.w64 (x := rd l (n : Int)) (by omega) (by omega)]
      have hz : 0 ≤ mn (rd l (n : Int)) B ∧ mn (rd l (n : Int)) B ≤ B := by unfold mn; split <;> omega
      generalize mn (rd l (n : Int)) B = z at *
      have ht := h.ht
      have hA := h.hA
      have hS := h.hS
      obtain ⟨q, M, f1, q0, hRq, hM0, hM1, hM2, f2⟩ := PacerBounds.take_ R B L t z (K + 2 * d + 2099) hR hB h.hL ht hz
      have e4 : K + 2 * d + 2100 = K + 2 * d + 2099 + 1 := by omega
      have e7 : K + 2 * d + 2100 = K + 2 * d + 2095 + 5 := by omega
      rw [← e4] at f1 f2
      have hw : leatlaw23_works.f (K + 2 * d + 2100) = some true := by rw [e7]; exact PacerBounds.works_ _
      rw [f1, Option.bind_some]
      by_cases g : t + q > 35184372088832
      · rw [if_pos g, hw, Option.bind_some]
      · rw [if_neg g, f2 (by omega), Option.bind_some, if_pos (by omega), if_pos (by omega)]
        dsimp only
        have e5 : wrap64 ((n : Int) + 1) = ((n + 1 : Nat) : Int) := by rw [PacerBounds.w64 (by omega) (by omega)]; omega
        rw [e5]
        exact ih (n + 1) (A ++ [t + q]) (S ++ [z]) M (t + q) K (by omega) (PacerBounds.step_ A S R B L t n h hB q z M q0 hz hRq (by omega) hM0 hM1 hM2)
    · rw [if_neg c]; exact hs

theorem PacerBounds : leatlaw23_PacerBounds.Pure := by
  intro r b l wr wb _ _ hl
  have hr : 0 ≤ r ∧ r ≤ 4294967295 := by
    simp only [Lit.wf, IntKind.min, IntKind.max, IntKind.signed, IntKind.bits, Bool.and_eq_true] at wr
    simpa using wr
  have hb : 0 ≤ b ∧ b ≤ 65535 := by
    simp only [Lit.wf, IntKind.min, IntKind.max, IntKind.signed, IntKind.bits, Bool.and_eq_true] at wb
    simpa using wb
  refine ⟨0 + 2 * 40 + 2100, ?_⟩
  unfold leatlaw23_PacerBounds.f
  rw [PacerBounds.w64 (x := r) (by omega) (by omega), PacerBounds.w64 (x := r + 1) (by omega) (by omega), PacerBounds.w64 (x := b) (by omega) (by omega), PacerBounds.w64 (x := b + 1) (by omega) (by omega)]
  exact PacerBounds.loop l hl (r + 1) (b + 1) (by omega) (by omega) 40 0 [] [] 0 0 0 (by omega) ⟨rfl, rfl, by omega, by omega, by omega, fun i h => by omega, fun i h => by omega, fun i h => by omega, fun i k _ h => by omega⟩

end Go.Proofs.Ythoeidcpemfmlaa.Pure
