/- The pure statement of PacerFirst: at the time that is told a size may be let go, and at none ahead. -/
import Derived.Test.YthoeidcpemfmlaaPPacerFirstx2
import Derived.Lib.Mul64
import Derived.Laws.Bits64
namespace Go.Proofs.Ythoeidcpemfmlaa.Pure
open Go.RowKit Go.Proofs.Ythoeidcpemfmlaa.PPacerFirst Go.Proofs.YthoeidcpemfmlaaW.PrintWords Go.Proofs.YthoeidcpemfmlaaW.PrintLast Go.Proofs.YthoeidcpemfmlaaW.PrintMore Go.Proofs.Ythoeidcpemfmlaa.Inj
open Go.Lib

theorem PacerFirst.wrap_toInt (v : BitVec 64) : IntKind.i64.wrap (v.toNat : Int) = v.toInt := by
  have := v.isLt
  rw [IntKind.wrap_i64, BitVec.toInt_eq_toNat_cond]
  split <;> omega
theorem PacerFirst.msb_ofInt {x : Int} (h0 : -9223372036854775808 ≤ x) (h1 : x ≤ 9223372036854775807) : (BitVec.ofInt 64 x).msb = decide (x < 0) := by
  rw [BitVec.msb_eq_toInt, BitVec.toInt_ofInt]
  have : x.bmod (2 ^ 64) = x := by
    rw [Int.bmod_def]; simp only [Nat.reducePow]; split <;> omega
  rw [this]
theorem PacerFirst.neg_msb (v : BitVec 64) : IntKind.i64.wrap (v.toNat : Int) < 0 ↔ v.msb = true := by
  rw [PacerFirst.wrap_toInt, BitVec.msb_eq_toInt]; simp
theorem PacerFirst.bits_range (op : BinOp) (x y : Int) : -9223372036854775808 ≤ Go.bits op .i64 x y ∧ Go.bits op .i64 x y ≤ 9223372036854775807 := by
  unfold Go.bits
  show _ ≤ IntKind.i64.wrap _ ∧ IntKind.i64.wrap _ ≤ _
  rw [IntKind.wrap_i64]; omega
theorem PacerFirst.and_neg {x y : Int} (hx : -9223372036854775808 ≤ x ∧ x ≤ 9223372036854775807) (hy : -9223372036854775808 ≤ y ∧ y ≤ 9223372036854775807) :
    Go.bits .and .i64 x y < 0 ↔ x < 0 ∧ y < 0 := by
  show IntKind.i64.wrap ((BitVec.ofInt 64 x &&& BitVec.ofInt 64 y).toNat : Int) < 0 ↔ _
  rw [PacerFirst.neg_msb, BitVec.msb_and, PacerFirst.msb_ofInt hx.1 hx.2, PacerFirst.msb_ofInt hy.1 hy.2]; simp
theorem PacerFirst.xor_neg {x y : Int} (hx : -9223372036854775808 ≤ x ∧ x ≤ 9223372036854775807) (hy : -9223372036854775808 ≤ y ∧ y ≤ 9223372036854775807) :
    Go.bits .xor .i64 x y < 0 ↔ ((x < 0 ∧ ¬ y < 0) ∨ (¬ x < 0 ∧ y < 0)) := by
  show IntKind.i64.wrap ((BitVec.ofInt 64 x ^^^ BitVec.ofInt 64 y).toNat : Int) < 0 ↔ _
  rw [PacerFirst.neg_msb, BitVec.msb_xor, PacerFirst.msb_ofInt hx.1 hx.2, PacerFirst.msb_ofInt hy.1 hy.2]
  by_cases h1 : x < 0 <;> by_cases h2 : y < 0 <;> simp [h1, h2] <;> omega

theorem PacerFirst.range {a : Int} (h : (Lit.int .i64 a).wf = true) : -9223372036854775808 ≤ a ∧ a ≤ 9223372036854775807 := by
  simp only [Lit.wf, IntKind.min, IntKind.max, IntKind.signed, IntKind.bits, Bool.and_eq_true, decide_eq_true_eq, if_true] at h
  omega
theorem PacerFirst.w64 {x : Int} (h0 : -9223372036854775808 ≤ x) (h1 : x ≤ 9223372036854775807) : wrap64 x = x := by
  unfold wrap64; omega
theorem PacerFirst.wr (x : Int) : -9223372036854775808 ≤ wrap64 x ∧ wrap64 x ≤ 9223372036854775807 := by
  unfold wrap64; omega

/-- A number kept between the ends. -/
def PacerFirst.keep (x : Int) : Int := if x < -9223372036854775808 then -9223372036854775808 else if 9223372036854775807 < x then 9223372036854775807 else x

theorem PacerFirst.end_ (b : Bool) : sat_end.f b = some (if b = true then -9223372036854775808 else 9223372036854775807) := by
  cases b <;> rfl

theorem PacerFirst.add_ (a b : Int) (ha : -9223372036854775808 ≤ a ∧ a ≤ 9223372036854775807) (hb : -9223372036854775808 ≤ b ∧ b ≤ 9223372036854775807) :
    sat_Add.f a b = some (PacerFirst.keep (a + b)) := by
  unfold sat_Add.f
  have h1 := PacerFirst.xor_neg ha (PacerFirst.wr (a + b))
  have h2 := PacerFirst.xor_neg hb (PacerFirst.wr (a + b))
  have h3 := PacerFirst.and_neg (PacerFirst.bits_range .xor a (wrap64 (a + b))) (PacerFirst.bits_range .xor b (wrap64 (a + b)))
  rw [h1, h2] at h3
  have hw : wrap64 (a + b) = if a + b < -9223372036854775808 then a + b + 18446744073709551616 else if 9223372036854775807 < a + b then a + b - 18446744073709551616 else a + b := by
    unfold wrap64; (repeat' split) <;> omega
  clear h1 h2
  unfold PacerFirst.keep
  by_cases c1 : a + b < -9223372036854775808
  · rw [if_pos c1] at hw ⊢
    rw [if_pos (h3.mpr (by omega)), PacerFirst.end_]; simp only [Option.bind_some]; rw [if_pos (by simp; omega)]
  · rw [if_neg c1] at hw ⊢
    by_cases c2 : 9223372036854775807 < a + b
    · rw [if_pos c2] at hw ⊢
      rw [if_pos (h3.mpr (by omega)), PacerFirst.end_]; simp only [Option.bind_some]; rw [if_neg (by simp; omega)]
    · rw [if_neg c2] at hw ⊢
      rw [if_neg (fun h => by have := h3.mp h; omega), hw]

theorem PacerFirst.mask32 (z : Int) (h0 : 0 ≤ z) (h1 : z < 18446744073709551616) : Go.bits .and .u64 z 4294967295 = z % 4294967296 := by
  have h := bits_mask .u64 64 (by decide) (fun n h₀ h₁ => by rw [IntKind.wrap_u64]; omega) 32 (by decide) z h0 (by simpa using h1)
  simpa using h
theorem PacerFirst.mul64 (X Y : Nat) (hX : X < 18446744073709551616) (hY : Y < 18446744073709551616) :
    bits_Mul64.f (X : Int) (Y : Int) = some (((X * Y / 18446744073709551616 : Nat) : Int), ((X * Y % 18446744073709551616 : Nat) : Int)) := by
  unfold bits_Mul64.f
  obtain ⟨m1, m2, m3, m4⟩ := mul64_hi X Y hX hY
  have b11 := half_mul_le (a := X / 4294967296) (b := Y / 4294967296) (by omega) (by omega)
  have b10 := half_mul_le (a := X / 4294967296) (b := Y % 4294967296) (by omega) (by omega)
  have b01 := half_mul_le (a := X % 4294967296) (b := Y / 4294967296) (by omega) (by omega)
  have b00 := half_mul_le (a := X % 4294967296) (b := Y % 4294967296) (by omega) (by omega)
  rw [PacerFirst.mask32 (X : Int) (by omega) (by omega), PacerFirst.mask32 (Y : Int) (by omega) (by omega)]
  have e11 : (X : Int) / 4294967296 * ((Y : Int) / 4294967296) = ((X / 4294967296 * (Y / 4294967296) : Nat) : Int) := by simp
  have e10 : (X : Int) / 4294967296 * ((Y : Int) % 4294967296) = ((X / 4294967296 * (Y % 4294967296) : Nat) : Int) := by simp
  have e01 : (X : Int) % 4294967296 * ((Y : Int) / 4294967296) = ((X % 4294967296 * (Y / 4294967296) : Nat) : Int) := by simp
  have e00 : (X : Int) % 4294967296 * ((Y : Int) % 4294967296) = ((X % 4294967296 * (Y % 4294967296) : Nat) : Int) := by simp
  have exy : (X : Int) * (Y : Int) = ((X * Y : Nat) : Int) := by simp
  rw [e11, e10, e01, e00, exy]
  generalize X / 4294967296 * (Y / 4294967296) = p11 at *
  generalize X / 4294967296 * (Y % 4294967296) = p10 at *
  generalize X % 4294967296 * (Y / 4294967296) = p01 at *
  generalize X % 4294967296 * (Y % 4294967296) = p00 at *
  generalize X * Y = p at *
  simp only [IntKind.wrap_u64]
  rw [PacerFirst.mask32 _ (by omega) (by omega)]
  congr 2
  omega
theorem PacerFirst.size_ (a : Int) (ha : -9223372036854775808 ≤ a ∧ a ≤ 9223372036854775807) : sat_size.f a = some (a.natAbs : Int) := by
  unfold sat_size.f
  split
  · have e : IntKind.u64.wrap (-(IntKind.u64.wrap a)) = (a.natAbs : Int) := by rw [IntKind.wrap_u64, IntKind.wrap_u64]; omega
    rw [e]
  · have e : IntKind.u64.wrap a = (a.natAbs : Int) := by rw [IntKind.wrap_u64]; omega
    rw [e]

/-- A size with a sign, kept at its end. -/
def PacerFirst.ans (below : Bool) (T : Nat) : Int :=
  if below = true then (if 9223372036854775808 < T then -9223372036854775808 else -(T : Int)) else (if 9223372036854775808 ≤ T then 9223372036854775807 else (T : Int))

theorem PacerFirst.tail_ (T k : Nat) (s : Bool) (hT : T < 340282366920938463463374607431768211456) :
    (if ((T / 18446744073709551616 : Nat) : Int) > 0 then (sat_end.f s).bind fun t => some t else (sat_signed.f (k + 1) ((T % 18446744073709551616 : Nat) : Int) s).bind fun t => some t) = some (PacerFirst.ans s T) := by
  unfold PacerFirst.ans
  by_cases h : ((T / 18446744073709551616 : Nat) : Int) > 0
  · rw [if_pos h, PacerFirst.end_]
    cases s
    · rw [if_neg (by decide), if_neg (by decide), if_pos (by omega)]; rfl
    · rw [if_pos rfl, if_pos rfl, if_pos (by omega)]; rfl
  · rw [if_neg h]
    unfold sat_signed.f
    simp only [sat_signed.j0]
    have e : T % 18446744073709551616 = T := by omega
    rw [e]
    cases s
    · simp only [Bool.false_eq_true, if_false]
      by_cases h1 : 9223372036854775808 ≤ T
      · rw [if_pos (by omega), if_pos h1]; rfl
      · rw [if_neg (by omega), if_neg h1, PacerFirst.w64 (by omega) (by omega)]; rfl
    · simp only [if_true]
      by_cases h1 : 9223372036854775808 < T
      · rw [if_pos (by simp; omega), if_pos h1]; rfl
      · rw [if_neg h1]
        by_cases h2 : T = 9223372036854775808
        · subst h2; rfl
        · rw [if_neg (by simp; omega), PacerFirst.w64 (x := (T : Int)) (by omega) (by omega), PacerFirst.w64 (by omega) (by omega)]; rfl


/-- A product of numbers that are not below 0. -/
theorem PacerFirst.mulnn_ (a b : Int) (k : Nat) (ha : 0 ≤ a ∧ a ≤ 9223372036854775807) (hb : 0 ≤ b ∧ b ≤ 9223372036854775807) :
    sat_Mul.f (k + 1) a b = some (if 9223372036854775807 < a * b then 9223372036854775807 else a * b) := by
  unfold sat_Mul.f
  rw [PacerFirst.size_ a (by omega), PacerFirst.size_ b (by omega)]
  simp only [Option.bind_some]
  rw [PacerFirst.mul64 a.natAbs b.natAbs (by omega) (by omega)]
  simp only [Option.bind_some]
  rw [decide_eq_false (show ¬ a < 0 by omega), decide_eq_false (show ¬ b < 0 by omega)]
  have hT : a.natAbs * b.natAbs < 340282366920938463463374607431768211456 := by
    have h1 : a.natAbs * b.natAbs ≤ 9223372036854775808 * 9223372036854775808 := Nat.mul_le_mul (by omega) (by omega)
    omega
  have hab : a * b = ((a.natAbs * b.natAbs : Nat) : Int) := by
    rw [Int.natCast_mul, Int.natAbs_of_nonneg ha.1, Int.natAbs_of_nonneg hb.1]
  have ht := PacerFirst.tail_ (a.natAbs * b.natAbs) k false hT
  rw [hab]
  generalize a.natAbs * b.natAbs = T at *
  refine Eq.trans ht ?_
  unfold PacerFirst.ans
  rw [if_neg (by decide)]
  by_cases h : 9223372036854775808 ≤ T
  · rw [if_pos h, if_pos (by omega)]
  · rw [if_neg h, if_neg (by omega)]

theorem PacerFirst.clampm_ (x lo hi : Int) : sat_Clamp.f x lo hi = some (mx lo (mn x hi)) := rfl


theorem PacerFirst.mxmn (lo x hi : Int) (h : lo ≤ hi) : mx lo (mn x hi) = mn (mx x lo) hi := by unfold mx mn; (repeat' split) <;> omega
theorem PacerFirst.mn_ (a b : Int) : mn a b = if b < a then b else a := rfl
theorem PacerFirst.mx_ (a b : Int) : mx a b = if a < b then b else a := rfl
theorem PacerFirst.kk (x : Int) (h0 : -9223372036854775808 ≤ x) (h1 : x ≤ 9223372036854775807) : PacerFirst.keep x = x := by unfold PacerFirst.keep; rw [if_neg (by omega), if_neg (by omega)]

/-- A bucket within its ends. -/
def PacerFirst.ok (r b l t : Int) : Prop := 1 ≤ r ∧ r ≤ 1099511627776 ∧ 1 ≤ b ∧ b ≤ 1099511627776 ∧ -2305843009213693952 ≤ l ∧ l ≤ b * 1000000 ∧ 0 ≤ t ∧ t ≤ 1125899906842624

theorem PacerFirst.within_ (r b l t : Int) (h : PacerFirst.ok r b l t) : pacer_within.f r b l t = some (r, b, l, t) := by
  obtain ⟨h1, h2, h3, h4, h5, h6, h7, h8⟩ := h
  unfold pacer_within.f
  have e : ∀ lo x hi : Int, lo ≤ x → x ≤ hi → mx lo (mn x hi) = x := fun lo x hi p q => by unfold mx mn; (repeat' split) <;> omega
  rw [e 1 r _ h1 h2, e 1 b _ h3 h4, PacerFirst.w64 (x := b * 1000000) (by omega) (by omega), e _ l _ h5 h6, e _ t _ h7 h8]

/-- What within tells of any bucket. -/
theorem PacerFirst.within2 (r b l t : Int) : ∃ r' b' l' t', pacer_within.f r b l t = some (r', b', l', t') ∧ PacerFirst.ok r' b' l' t' ∧ r' = mn (mx r 1) 1099511627776 ∧ b' = mn (mx b 1) 1099511627776 ∧ l' = mn (mx l (-2305843009213693952)) (b' * 1000000) ∧ t' = mn (mx t 0) 1125899906842624 := by
  have hb : 1 ≤ mn (mx b 1) 1099511627776 ∧ mn (mx b 1) 1099511627776 ≤ 1099511627776 := by unfold mx mn; (repeat' split) <;> omega
  have hr : 1 ≤ mn (mx r 1) 1099511627776 ∧ mn (mx r 1) 1099511627776 ≤ 1099511627776 := by unfold mx mn; (repeat' split) <;> omega
  have ht : 0 ≤ mn (mx t 0) 1125899906842624 ∧ mn (mx t 0) 1125899906842624 ≤ 1125899906842624 := by unfold mx mn; (repeat' split) <;> omega
  refine ⟨mn (mx r 1) 1099511627776, mn (mx b 1) 1099511627776, mn (mx l (-2305843009213693952)) (mn (mx b 1) 1099511627776 * 1000000), mn (mx t 0) 1125899906842624, ?_, ?_, rfl, rfl, rfl, rfl⟩
  · unfold pacer_within.f
    rw [PacerFirst.mxmn 1 r _ (by omega), PacerFirst.mxmn 1 b _ (by omega), PacerFirst.mxmn 0 t _ (by omega)]
    generalize mn (mx b 1) 1099511627776 = b' at *
    rw [PacerFirst.w64 (x := b' * 1000000) (by omega) (by omega), PacerFirst.mxmn _ l _ (by omega)]
  · generalize mn (mx b 1) 1099511627776 = b' at *
    refine ⟨hr.1, hr.2, hb.1, hb.2, ?_, ?_, ht.1, ht.2⟩ <;> (unfold mx mn; (repeat' split) <;> omega)

/-- The level behind so many ticks. -/
def PacerFirst.lev (r b l d : Int) : Int := if b * 1000000 < l + r * d then b * 1000000 else l + r * d

theorem PacerFirst.fill_ (r b l t now : Int) (k : Nat) (h : PacerFirst.ok r b l t) (hn : 0 ≤ now ∧ now ≤ 1125899906842624) :
    pacer_Fill.f (k + 1) r b l t now = some (r, b, (if t < now then PacerFirst.lev r b l (now - t) else l), (if t < now then now else t)) := by
  have hw := PacerFirst.within_ r b l t h
  obtain ⟨h1, h2, h3, h4, h5, h6, h7, h8⟩ := h
  unfold pacer_Fill.f
  rw [hw, PacerFirst.clampm_]
  have e : mx 0 (mn now 1125899906842624) = now := by unfold mx mn; (repeat' split) <;> omega
  simp only [Option.bind_some]
  rw [e]
  by_cases c : t < now
  · rw [if_pos (show now > t by omega), if_pos c, if_pos c, PacerFirst.w64 (x := now - t) (by omega) (by omega), PacerFirst.mulnn_ r (now - t) k (by omega) (by omega)]
    simp only [Option.bind_some]
    have hp : 0 ≤ r * (now - t) := Int.mul_nonneg (by omega) (by omega)
    unfold PacerFirst.lev
    generalize r * (now - t) = p at *
    rw [PacerFirst.add_ l _ (by omega) (by split <;> omega)]
    simp only [Option.bind_some]
    rw [PacerFirst.w64 (x := b * 1000000) (by omega) (by omega), PacerFirst.mn_]
    congr 3
    unfold PacerFirst.keep
    (repeat' split) <;> first | omega | rfl | (congr 1; omega; done) | (congr 1; done)
  · rw [if_neg (show ¬ now > t by omega), if_neg c, if_neg c]

theorem PacerFirst.need_ (r b l t size : Int) (hb : 1 ≤ b ∧ b ≤ 1099511627776) : pacer_need.f r b l t size = some (mn (mx size 0) b * 1000000) := by
  unfold pacer_need.f
  rw [PacerFirst.clampm_, PacerFirst.mxmn 0 size b (by omega)]
  simp only [Option.bind_some]
  have : 0 ≤ mn (mx size 0) b ∧ mn (mx size 0) b ≤ b := by unfold mx mn; (repeat' split) <;> omega
  rw [PacerFirst.w64 (by omega) (by omega)]

def PacerFirst.sat_Mod.f (a0 : Int) (a1 : Int) : Option (Int) := if a1 ≤ 0 then (some 0) else (if a1 = 0 then (none) else (if (Int.tmod a0 a1) < 0 then (some (wrap64 ((Int.tmod a0 a1) + a1))) else (some (Int.tmod a0 a1))))
/-- What is known of a quotient and a rest. -/
theorem PacerFirst.parts (a b : Int) (hb : b ≠ 0) : a = a.tdiv b * b + a.tmod b ∧ (0 ≤ a → 0 ≤ a.tmod b) ∧ (a ≤ 0 → a.tmod b ≤ 0) ∧ (a.tmod b).natAbs < b.natAbs ∧ (a.tdiv b).natAbs ≤ a.natAbs := by
  refine ⟨by have := Int.mul_tdiv_add_tmod a b; rw [Int.mul_comm]; omega, fun h => Int.tmod_nonneg b h, fun h => ?_, ?_, ?_⟩
  · have h2 := Int.tmod_nonneg b (show 0 ≤ -a by omega)
    rw [Int.neg_tmod] at h2; omega
  · rw [Int.natAbs_tmod]; exact Nat.mod_lt _ (by omega)
  · rw [Int.natAbs_tdiv]; exact Nat.div_le_self _ _

/-- Quotient and rest of a divisor above 0. -/
theorem PacerFirst.div_ (a b : Int) (k : Nat) (ha : -9223372036854775808 ≤ a ∧ a ≤ 9223372036854775807) (hb : 0 < b ∧ b ≤ 9223372036854775807) :
    ∃ q r, sat_Div.f (k + 1) a b = some q ∧ PacerFirst.sat_Mod.f a b = some r ∧ 0 ≤ r ∧ r < b ∧ q * b + r = a := by
  obtain ⟨e, p1, p2, p3, p4⟩ := PacerFirst.parts a b (by omega)
  unfold sat_Div.f PacerFirst.sat_Mod.f
  have l : (if a = -9223372036854775808 then sat_Div.j0 (k + 1) a b (b == -1) else sat_Div.j0 (k + 1) a b false) = sat_Div.j0 (k + 1) a b false := by
    rw [show (b == -1) = false by simp; omega]; split <;> rfl
  rw [if_neg (by omega), l]
  simp only [sat_Div.j0]
  rw [if_neg (by decide), if_neg (by omega), if_neg (show ¬ b ≤ 0 by omega), if_neg (show ¬ b = 0 by omega)]
  have hs : a < 0 → a.tdiv b ≤ 0 := fun h => by
    have h2 := Int.tdiv_nonneg (show 0 ≤ -a by omega) (show 0 ≤ b by omega)
    rw [Int.neg_tdiv] at h2; omega
  have w1 : wrap64 (a.tdiv b) = a.tdiv b := PacerFirst.w64 (by omega) (by omega)
  have hd : decide (b < 0) = false := by simp; omega
  rw [w1, hd]
  by_cases h2 : a.tmod b = 0
  · rw [if_pos h2, if_neg (show ¬ a.tmod b < 0 by omega)]
    exact ⟨_, _, rfl, rfl, by omega, by omega, by omega⟩
  · rw [if_neg h2]
    by_cases h3 : a < 0
    · rw [if_pos (by simpa using h3), if_pos (by omega)]
      have hlow : -9223372036854775808 < a.tdiv b := by
        have h4 : (a.tdiv b).natAbs * b.natAbs ≤ a.natAbs := by
          rw [Int.natAbs_tdiv]; exact Nat.div_mul_le_self _ _
        by_cases h5 : b = 1
        · subst h5; have := Int.tmod_one a; omega
        · have h6 := Nat.mul_le_mul_left (a.tdiv b).natAbs (show 2 ≤ b.natAbs by omega)
          omega
      refine ⟨_, _, rfl, rfl, ?_, ?_, ?_⟩
      · rw [PacerFirst.w64 (by omega) (by omega)]; omega
      · rw [PacerFirst.w64 (by omega) (by omega)]; omega
      · rw [PacerFirst.w64 (by omega) (by omega), PacerFirst.w64 (by omega) (by omega), Int.sub_mul]; omega
    · rw [if_neg (by simpa using h3), if_neg (by omega)]
      exact ⟨_, _, rfl, rfl, by omega, by omega, by omega⟩


/-- A quotient, downwards. -/
theorem PacerFirst.divp_ (a b : Int) (k : Nat) (ha : -9223372036854775808 ≤ a ∧ a ≤ 9223372036854775807) (hb : 0 < b ∧ b ≤ 9223372036854775807) : sat_Div.f (k + 1) a b = some (a / b) := by
  obtain ⟨q, r, e1, _, h0, h1, h2⟩ := PacerFirst.div_ a b k ha hb
  have : a / b = q := by
    rw [← h2, Int.mul_comm q b, Int.add_comm, Int.add_mul_ediv_left _ _ (by omega), Int.ediv_eq_zero_of_lt h0 h1, Int.zero_add]
  rw [e1, this]


theorem PacerFirst.fillG (r b l t x : Int) (k : Nat) (h : PacerFirst.ok r b l t) (hx : t ≤ x ∧ x ≤ 1125899906842624) :
    pacer_Fill.f (k + 1) r b l t x = some (r, b, PacerFirst.lev r b l (x - t), x) := by
  rw [PacerFirst.fill_ r b l t x k h ⟨by have := h.2.2.2.2.2.2.1; omega, hx.2⟩]
  by_cases c : t < x
  · rw [if_pos c, if_pos c]
  · have e : x = t := by omega
    subst e
    have h6 := h.2.2.2.2.2.1
    have hl : PacerFirst.lev r b l (x - x) = l := by
      unfold PacerFirst.lev
      rw [show x - x = 0 by omega, Int.mul_zero, if_neg (by omega)]; omega
    rw [if_neg c, if_neg c, hl]

theorem PacerFirst.lev_le (r b l d : Int) : PacerFirst.lev r b l d ≤ b * 1000000 ∧ PacerFirst.lev r b l d ≤ l + r * d ∧ (PacerFirst.lev r b l d = b * 1000000 ∨ PacerFirst.lev r b l d = l + r * d) := by
  unfold PacerFirst.lev
  split
  · exact ⟨by omega, by omega, Or.inl rfl⟩
  · exact ⟨by omega, by omega, Or.inr rfl⟩

theorem PacerFirst.when_ (r b l t now size : Int) (k : Nat) (h : PacerFirst.ok r b l t) (hn : 0 ≤ now ∧ now ≤ 4294967295) :
    ∃ c : Int, pacer_When.f (k + 1) r b l t now size = some (mx now t + c) ∧ 0 ≤ c ∧ c ≤ 3500000000000000000 ∧
      mn (mx size 0) b * 1000000 ≤ PacerFirst.lev r b l (mx now t - t) + r * c ∧
      (0 < c → PacerFirst.lev r b l (mx now t - t) + r * (c - 1) < mn (mx size 0) b * 1000000) := by
  have hb : 1 ≤ b ∧ b ≤ 1099511627776 := ⟨h.2.2.1, h.2.2.2.1⟩
  have hz : 0 ≤ mn (mx size 0) b ∧ mn (mx size 0) b ≤ b := by unfold mx mn; (repeat' split) <;> omega
  have hf : pacer_Fill.f (k + 1) r b l t now = some (r, b, PacerFirst.lev r b l (mx now t - t), mx now t) := by
    by_cases c : t ≤ now
    · have e : mx now t = now := by unfold mx; (repeat' split) <;> omega
      rw [e, PacerFirst.fillG r b l t now k h ⟨c, by omega⟩]
    · have e : mx now t = t := by unfold mx; (repeat' split) <;> omega
      have h6 := h.2.2.2.2.2.1
      have hl : PacerFirst.lev r b l (t - t) = l := by
        unfold PacerFirst.lev
        rw [show t - t = 0 by omega, Int.mul_zero, if_neg (by omega)]; omega
      rw [e, hl, PacerFirst.fill_ r b l t now k h ⟨hn.1, by omega⟩, if_neg (by omega), if_neg (by omega)]
  have ha : 0 ≤ mx now t ∧ mx now t ≤ 1125899906842624 := by
    have := h.2.2.2.2.2.2
    unfold mx; split <;> omega
  have hd : 0 ≤ mx now t - t := by unfold mx; split <;> omega
  have hL := PacerFirst.lev_le r b l (mx now t - t)
  have hp : 0 ≤ r * (mx now t - t) := Int.mul_nonneg (by have := h.1; omega) hd
  obtain ⟨h1, h2, h3, h4, h5, h6, h7, h8⟩ := h
  have hLo : -2305843009213693952 ≤ PacerFirst.lev r b l (mx now t - t) := by
    rcases hL.2.2 with e | e <;> omega
  unfold pacer_When.f
  rw [hf, Option.bind_some]
  dsimp only
  rw [PacerFirst.need_ _ _ _ _ size hb, Option.bind_some]
  generalize mn (mx size 0) b = z at *
  generalize PacerFirst.lev r b l (mx now t - t) = L at *
  generalize mx now t = a at *
  rw [PacerFirst.w64 (x := z * 1000000 - L) (by omega) (by omega)]
  by_cases c : z * 1000000 - L > 0
  · rw [if_pos c, PacerFirst.w64 (x := -(z * 1000000 - L)) (by omega) (by omega), PacerFirst.divp_ (-(z * 1000000 - L)) r k (by omega) (by omega), Option.bind_some]
    have hdm := Int.mul_ediv_add_emod (-(z * 1000000 - L)) r
    have hm0 := Int.emod_nonneg (-(z * 1000000 - L)) (show r ≠ 0 by omega)
    have hm1 := Int.emod_lt_of_pos (-(z * 1000000 - L)) (show 0 < r by omega)
    generalize (-(z * 1000000 - L)) % r = m at *
    generalize (-(z * 1000000 - L)) / r = q at *
    have hq1 : q < 0 := by
      by_cases hq : q < 0
      · exact hq
      · have := Int.mul_nonneg (show 0 ≤ r by omega) (show 0 ≤ q by omega); omega
    have hq2 : -3500000000000000000 ≤ q := by
      have : r * (q + 1) ≤ 1 * (q + 1) := Int.mul_le_mul_of_nonpos_right (by omega) (by omega)
      rw [Int.mul_add] at this; omega
    refine ⟨-q, ?_, by omega, by omega, ?_, fun _ => ?_⟩
    · rw [PacerFirst.w64 (x := a - q) (by omega) (by omega)]; rfl
    · rw [Int.mul_neg]; omega
    · rw [Int.mul_sub, Int.mul_neg]; omega
  · rw [if_neg c]
    refine ⟨0, by rw [Int.add_zero], by omega, by omega, by rw [Int.mul_zero]; omega, fun h => by omega⟩

theorem PacerFirst : leatlaw23_PacerFirst.Pure := by
  intro r b l t now size w0 w1 w2 w3 wn w5
  have hn : 0 ≤ now ∧ now ≤ 4294967295 := by
    simp only [Lit.wf, IntKind.min, IntKind.max, IntKind.signed, IntKind.bits, Bool.and_eq_true] at wn
    simpa using wn
  refine ⟨6, ?_⟩
  have hw : leatlaw23_works.f (4 + 1) = some true := by kernel_rfl
  have hw6 : leatlaw23_works.f 6 = some true := by kernel_rfl
  have hb : 1 ≤ mn (mx b 1) 1099511627776 ∧ mn (mx b 1) 1099511627776 ≤ 1099511627776 := by unfold mx mn; (repeat' split) <;> omega
  have hr : 1 ≤ mn (mx r 1) 1099511627776 ∧ mn (mx r 1) 1099511627776 ≤ 1099511627776 := by unfold mx mn; (repeat' split) <;> omega
  unfold leatlaw23_PacerFirst.f leatref23_Within.f
  rw [Option.bind_some]
  dsimp only
  generalize mn (mx b 1) 1099511627776 = B at *
  generalize mn (mx r 1) 1099511627776 = R at *
  rw [PacerFirst.w64 (x := now) (by omega) (by omega)]
  have hL : -1099511627776 ≤ mx (mn (mx l (-2305843009213693952)) (B * 1000000)) (-1099511627776) ∧ mx (mn (mx l (-2305843009213693952)) (B * 1000000)) (-1099511627776) ≤ B * 1000000 := by unfold mx mn; (repeat' split) <;> omega
  have hT : 0 ≤ mn (mn (mx t 0) 1125899906842624) 1099511627776 ∧ mn (mn (mx t 0) 1125899906842624) 1099511627776 ≤ 1099511627776 := by unfold mx mn; (repeat' split) <;> omega
  generalize mx (mn (mx l (-2305843009213693952)) (B * 1000000)) (-1099511627776) = L at *
  generalize mn (mn (mx t 0) 1125899906842624) 1099511627776 = T at *
  have hok : PacerFirst.ok R B L T := ⟨hr.1, hr.2, hb.1, hb.2, by omega, hL.2, hT.1, by omega⟩
  obtain ⟨c, e1, c0, c1, c2, c3⟩ := PacerFirst.when_ R B L T now size 5 hok hn
  have hz : 0 ≤ mn (mx size 0) B ∧ mn (mx size 0) B ≤ B := by unfold mx mn; (repeat' split) <;> omega
  rw [e1, Option.bind_some]
  unfold leatref23_Need.f
  rw [Option.bind_some, PacerFirst.w64 (x := mn (mx size 0) B * 1000000) (by omega) (by omega)]
  generalize mn (mx size 0) B = z at *
  have ha : now ≤ mx now T ∧ T ≤ mx now T ∧ mx now T ≤ 4398046511104 := by unfold mx; split <;> omega
  have hpl : PacerFirst.lev R B L (mx now T - T) ≤ L + R * (mx now T - T) := (PacerFirst.lev_le R B L _).2.1
  have hpl2 := (PacerFirst.lev_le R B L (mx now T - T)).2.2
  generalize mx now T = a at *
  by_cases g : a + c ≥ 1125899906842624
  · rw [if_pos g, hw6]; rfl
  rw [if_neg g]
  have tailj : leatlaw23_PacerFirst.j0 6 now (a + c) (z * 1000000) false R B L T = some true := by
    rw [leatlaw23_PacerFirst.j0, if_neg (by decide), PacerFirst.w64 (x := now) (by omega) (by omega), if_pos (by omega), if_pos (by omega), PacerFirst.fillG R B L T (a + c) 4 hok ⟨by omega, by omega⟩, Option.bind_some]
    dsimp only
    have hlev : PacerFirst.lev R B L (a + c - T) ≥ z * 1000000 := by
      have e : R * (a + c - T) = R * (a - T) + R * c := by rw [show a + c - T = (a - T) + c by omega, Int.mul_add]
      unfold PacerFirst.lev
      rw [e]
      split <;> omega
    rw [if_pos hlev, hw, Option.bind_some]
  by_cases g2 : a + c > a
  · rw [if_pos g2, PacerFirst.w64 (x := a + c - 1) (by omega) (by omega), PacerFirst.fillG R B L T (a + c - 1) 5 hok ⟨by omega, by omega⟩, Option.bind_some]
    dsimp only
    have c4 := c3 (by omega)
    have hlev : ¬ PacerFirst.lev R B L (a + c - 1 - T) ≥ z * 1000000 := by
      have e : R * (a + c - 1 - T) = R * (a - T) + R * (c - 1) := by rw [show a + c - 1 - T = (a - T) + (c - 1) by omega, Int.mul_add]
      have h9 := (PacerFirst.lev_le R B L (a + c - 1 - T)).2.1
      rw [e] at h9
      have hq : 0 ≤ R * (c - 1) := Int.mul_nonneg (by omega) (by omega)
      rcases hpl2 with h | h <;> omega
    rw [decide_eq_false hlev]
    exact tailj
  · rw [if_neg g2]
    exact tailj

end Go.Proofs.Ythoeidcpemfmlaa.Pure
