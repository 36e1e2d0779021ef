/- The pure statement of PacerTells: any size may be let go of any bucket when the reference says, and any window goes round as fast. -/
import Derived.Test.YthoeidcpemfmlaaPPacerTellsx4
import Derived.Lib.Mul64
import Derived.Laws.Bits64
namespace Go.Proofs.Ythoeidcpemfmlaa.Pure
open Go.RowKit Go.Proofs.Ythoeidcpemfmlaa.PPacerTells Go.Proofs.YthoeidcpemfmlaaW.PrintWords Go.Proofs.YthoeidcpemfmlaaW.PrintLast Go.Proofs.YthoeidcpemfmlaaW.PrintMore Go.Proofs.Ythoeidcpemfmlaa.Inj
open Go.Lib

theorem PacerTells.wrap_toInt (v : BitVec 64) : IntKind.i64.wrap (v.toNat : Int) = v.toInt := by
  have := v.isLt
  rw [IntKind.wrap_i64, BitVec.toInt_eq_toNat_cond]
  split <;> omega
theorem PacerTells.msb_ofInt {x : Int} (h0 : -9223372036854775808 ≤ x) (h1 : x ≤ 9223372036854775807) : (BitVec.ofInt 64 x).msb = decide (x < 0) := by
  rw [BitVec.msb_eq_toInt, BitVec.toInt_ofInt]
  have : x.bmod (2 ^ 64) = x := by
    rw [Int.bmod_def]; simp only [Nat.reducePow]; split <;> omega
  rw [this]
theorem PacerTells.neg_msb (v : BitVec 64) : IntKind.i64.wrap (v.toNat : Int) < 0 ↔ v.msb = true := by
  rw [PacerTells.wrap_toInt, BitVec.msb_eq_toInt]; simp
theorem PacerTells.bits_range (op : BinOp) (x y : Int) : -9223372036854775808 ≤ Go.bits op .i64 x y ∧ Go.bits op .i64 x y ≤ 9223372036854775807 := by
  unfold Go.bits
  show _ ≤ IntKind.i64.wrap _ ∧ IntKind.i64.wrap _ ≤ _
  rw [IntKind.wrap_i64]; omega
theorem PacerTells.and_neg {x y : Int} (hx : -9223372036854775808 ≤ x ∧ x ≤ 9223372036854775807) (hy : -9223372036854775808 ≤ y ∧ y ≤ 9223372036854775807) :
    Go.bits .and .i64 x y < 0 ↔ x < 0 ∧ y < 0 := by
  show IntKind.i64.wrap ((BitVec.ofInt 64 x &&& BitVec.ofInt 64 y).toNat : Int) < 0 ↔ _
  rw [PacerTells.neg_msb, BitVec.msb_and, PacerTells.msb_ofInt hx.1 hx.2, PacerTells.msb_ofInt hy.1 hy.2]; simp
theorem PacerTells.xor_neg {x y : Int} (hx : -9223372036854775808 ≤ x ∧ x ≤ 9223372036854775807) (hy : -9223372036854775808 ≤ y ∧ y ≤ 9223372036854775807) :
    Go.bits .xor .i64 x y < 0 ↔ ((x < 0 ∧ ¬ y < 0) ∨ (¬ x < 0 ∧ y < 0)) := by
  show IntKind.i64.wrap ((BitVec.ofInt 64 x ^^^ BitVec.ofInt 64 y).toNat : Int) < 0 ↔ _
  rw [PacerTells.neg_msb, BitVec.msb_xor, PacerTells.msb_ofInt hx.1 hx.2, PacerTells.msb_ofInt hy.1 hy.2]
  by_cases h1 : x < 0 <;> by_cases h2 : y < 0 <;> simp [h1, h2] <;> omega

theorem PacerTells.range {a : Int} (h : (Lit.int .i64 a).wf = true) : -9223372036854775808 ≤ a ∧ a ≤ 9223372036854775807 := by
  simp only [Lit.wf, IntKind.min, IntKind.max, IntKind.signed, IntKind.bits, Bool.and_eq_true, decide_eq_true_eq, if_true] at h
  omega
theorem PacerTells.w64 {x : Int} (h0 : -9223372036854775808 ≤ x) (h1 : x ≤ 9223372036854775807) : wrap64 x = x := by
  unfold wrap64; omega
theorem PacerTells.wr (x : Int) : -9223372036854775808 ≤ wrap64 x ∧ wrap64 x ≤ 9223372036854775807 := by
  unfold wrap64; omega

/-- A number kept between the ends. -/
def PacerTells.keep (x : Int) : Int := if x < -9223372036854775808 then -9223372036854775808 else if 9223372036854775807 < x then 9223372036854775807 else x

theorem PacerTells.end_ (b : Bool) : sat_end.f b = some (if b = true then -9223372036854775808 else 9223372036854775807) := by
  cases b <;> rfl

theorem PacerTells.add_ (a b : Int) (ha : -9223372036854775808 ≤ a ∧ a ≤ 9223372036854775807) (hb : -9223372036854775808 ≤ b ∧ b ≤ 9223372036854775807) :
    sat_Add.f a b = some (PacerTells.keep (a + b)) := by
  unfold sat_Add.f
  have h1 := PacerTells.xor_neg ha (PacerTells.wr (a + b))
  have h2 := PacerTells.xor_neg hb (PacerTells.wr (a + b))
  have h3 := PacerTells.and_neg (PacerTells.bits_range .xor a (wrap64 (a + b))) (PacerTells.bits_range .xor b (wrap64 (a + b)))
  rw [h1, h2] at h3
  have hw : wrap64 (a + b) = if a + b < -9223372036854775808 then a + b + 18446744073709551616 else if 9223372036854775807 < a + b then a + b - 18446744073709551616 else a + b := by
    unfold wrap64; (repeat' split) <;> omega
  clear h1 h2
  unfold PacerTells.keep
  by_cases c1 : a + b < -9223372036854775808
  · rw [if_pos c1] at hw ⊢
    rw [if_pos (h3.mpr (by omega)), PacerTells.end_]; simp only [Option.bind_some]; rw [if_pos (by simp; omega)]
  · rw [if_neg c1] at hw ⊢
    by_cases c2 : 9223372036854775807 < a + b
    · rw [if_pos c2] at hw ⊢
      rw [if_pos (h3.mpr (by omega)), PacerTells.end_]; simp only [Option.bind_some]; rw [if_neg (by simp; omega)]
    · rw [if_neg c2] at hw ⊢
      rw [if_neg (fun h => by have := h3.mp h; omega), hw]

theorem PacerTells.mask32 (z : Int) (h0 : 0 ≤ z) (h1 : z < 18446744073709551616) : Go.bits .and .u64 z 4294967295 = z % 4294967296 := by
  have h := bits_mask .u64 64 (by decide) (fun n h₀ h₁ => by rw [IntKind.wrap_u64]; omega) 32 (by decide) z h0 (by simpa using h1)
  simpa using h
theorem PacerTells.mul64 (X Y : Nat) (hX : X < 18446744073709551616) (hY : Y < 18446744073709551616) :
    bits_Mul64.f (X : Int) (Y : Int) = some (((X * Y / 18446744073709551616 : Nat) : Int), ((X * Y % 18446744073709551616 : Nat) : Int)) := by
  unfold bits_Mul64.f
  obtain ⟨m1, m2, m3, m4⟩ := mul64_hi X Y hX hY
  have b11 := half_mul_le (a := X / 4294967296) (b := Y / 4294967296) (by omega) (by omega)
  have b10 := half_mul_le (a := X / 4294967296) (b := Y % 4294967296) (by omega) (by omega)
  have b01 := half_mul_le (a := X % 4294967296) (b := Y / 4294967296) (by omega) (by omega)
  have b00 := half_mul_le (a := X % 4294967296) (b := Y % 4294967296) (by omega) (by omega)
  rw [PacerTells.mask32 (X : Int) (by omega) (by omega), PacerTells.mask32 (Y : Int) (by omega) (by omega)]
  have e11 : (X : Int) / 4294967296 * ((Y : Int) / 4294967296) = ((X / 4294967296 * (Y / 4294967296) : Nat) : Int) := by simp
  have e10 : (X : Int) / 4294967296 * ((Y : Int) % 4294967296) = ((X / 4294967296 * (Y % 4294967296) : Nat) : Int) := by simp
  have e01 : (X : Int) % 4294967296 * ((Y : Int) / 4294967296) = ((X % 4294967296 * (Y / 4294967296) : Nat) : Int) := by simp
  have e00 : (X : Int) % 4294967296 * ((Y : Int) % 4294967296) = ((X % 4294967296 * (Y % 4294967296) : Nat) : Int) := by simp
  have exy : (X : Int) * (Y : Int) = ((X * Y : Nat) : Int) := by simp
  rw [e11, e10, e01, e00, exy]
  generalize X / 4294967296 * (Y / 4294967296) = p11 at *
  generalize X / 4294967296 * (Y % 4294967296) = p10 at *
  generalize X % 4294967296 * (Y / 4294967296) = p01 at *
  generalize X % 4294967296 * (Y % 4294967296) = p00 at *
  generalize X * Y = p at *
  simp only [IntKind.wrap_u64]
  rw [PacerTells.mask32 _ (by omega) (by omega)]
  congr 2
  omega
theorem PacerTells.size_ (a : Int) (ha : -9223372036854775808 ≤ a ∧ a ≤ 9223372036854775807) : sat_size.f a = some (a.natAbs : Int) := by
  unfold sat_size.f
  split
  · have e : IntKind.u64.wrap (-(IntKind.u64.wrap a)) = (a.natAbs : Int) := by rw [IntKind.wrap_u64, IntKind.wrap_u64]; omega
    rw [e]
  · have e : IntKind.u64.wrap a = (a.natAbs : Int) := by rw [IntKind.wrap_u64]; omega
    rw [e]

/-- A size with a sign, kept at its end. -/
def PacerTells.ans (below : Bool) (T : Nat) : Int :=
  if below = true then (if 9223372036854775808 < T then -9223372036854775808 else -(T : Int)) else (if 9223372036854775808 ≤ T then 9223372036854775807 else (T : Int))

theorem PacerTells.tail_ (T k : Nat) (s : Bool) (hT : T < 340282366920938463463374607431768211456) :
    (if ((T / 18446744073709551616 : Nat) : Int) > 0 then (sat_end.f s).bind fun t => some t else (sat_signed.f (k + 1) ((T % 18446744073709551616 : Nat) : Int) s).bind fun t => some t) = some (PacerTells.ans s T) := by
  unfold PacerTells.ans
  by_cases h : ((T / 18446744073709551616 : Nat) : Int) > 0
  · rw [if_pos h, PacerTells.end_]
    cases s
    · rw [if_neg (by decide), if_neg (by decide), if_pos (by omega)]; rfl
    · rw [if_pos rfl, if_pos rfl, if_pos (by omega)]; rfl
  · rw [if_neg h]
    unfold sat_signed.f
    simp only [sat_signed.j0]
    have e : T % 18446744073709551616 = T := by omega
    rw [e]
    cases s
    · simp only [Bool.false_eq_true, if_false]
      by_cases h1 : 9223372036854775808 ≤ T
      · rw [if_pos (by omega), if_pos h1]; rfl
      · rw [if_neg (by omega), if_neg h1, PacerTells.w64 (by omega) (by omega)]; rfl
    · simp only [if_true]
      by_cases h1 : 9223372036854775808 < T
      · rw [if_pos (by simp; omega), if_pos h1]; rfl
      · rw [if_neg h1]
        by_cases h2 : T = 9223372036854775808
        · subst h2; rfl
        · rw [if_neg (by simp; omega), PacerTells.w64 (x := (T : Int)) (by omega) (by omega), PacerTells.w64 (by omega) (by omega)]; rfl


/-- A product of numbers that are not below 0. -/
theorem PacerTells.mulnn_ (a b : Int) (k : Nat) (ha : 0 ≤ a ∧ a ≤ 9223372036854775807) (hb : 0 ≤ b ∧ b ≤ 9223372036854775807) :
    sat_Mul.f (k + 1) a b = some (if 9223372036854775807 < a * b then 9223372036854775807 else a * b) := by
  unfold sat_Mul.f
  rw [PacerTells.size_ a (by omega), PacerTells.size_ b (by omega)]
  simp only [Option.bind_some]
  rw [PacerTells.mul64 a.natAbs b.natAbs (by omega) (by omega)]
  simp only [Option.bind_some]
  rw [decide_eq_false (show ¬ a < 0 by omega), decide_eq_false (show ¬ b < 0 by omega)]
  have hT : a.natAbs * b.natAbs < 340282366920938463463374607431768211456 := by
    have h1 : a.natAbs * b.natAbs ≤ 9223372036854775808 * 9223372036854775808 := Nat.mul_le_mul (by omega) (by omega)
    omega
  have hab : a * b = ((a.natAbs * b.natAbs : Nat) : Int) := by
    rw [Int.natCast_mul, Int.natAbs_of_nonneg ha.1, Int.natAbs_of_nonneg hb.1]
  have ht := PacerTells.tail_ (a.natAbs * b.natAbs) k false hT
  rw [hab]
  generalize a.natAbs * b.natAbs = T at *
  refine Eq.trans ht ?_
  unfold PacerTells.ans
  rw [if_neg (by decide)]
  by_cases h : 9223372036854775808 ≤ T
  · rw [if_pos h, if_pos (by omega)]
  · rw [if_neg h, if_neg (by omega)]

theorem PacerTells.clampm_ (x lo hi : Int) : sat_Clamp.f x lo hi = some (mx lo (mn x hi)) := rfl


theorem PacerTells.mxmn (lo x hi : Int) (h : lo ≤ hi) : mx lo (mn x hi) = mn (mx x lo) hi := by unfold mx mn; (repeat' split) <;> omega
theorem PacerTells.mn_ (a b : Int) : mn a b = if b < a then b else a := rfl
theorem PacerTells.mx_ (a b : Int) : mx a b = if a < b then b else a := rfl
theorem PacerTells.kk (x : Int) (h0 : -9223372036854775808 ≤ x) (h1 : x ≤ 9223372036854775807) : PacerTells.keep x = x := by unfold PacerTells.keep; rw [if_neg (by omega), if_neg (by omega)]

/-- A bucket within its ends. -/
def PacerTells.ok (r b l t : Int) : Prop := 1 ≤ r ∧ r ≤ 1099511627776 ∧ 1 ≤ b ∧ b ≤ 1099511627776 ∧ -2305843009213693952 ≤ l ∧ l ≤ b * 1000000 ∧ 0 ≤ t ∧ t ≤ 1125899906842624

theorem PacerTells.within_ (r b l t : Int) (h : PacerTells.ok r b l t) : pacer_within.f r b l t = some (r, b, l, t) := by
  obtain ⟨h1, h2, h3, h4, h5, h6, h7, h8⟩ := h
  unfold pacer_within.f
  have e : ∀ lo x hi : Int, lo ≤ x → x ≤ hi → mx lo (mn x hi) = x := fun lo x hi p q => by unfold mx mn; (repeat' split) <;> omega
  rw [e 1 r _ h1 h2, e 1 b _ h3 h4, PacerTells.w64 (x := b * 1000000) (by omega) (by omega), e _ l _ h5 h6, e _ t _ h7 h8]

/-- What within tells of any bucket. -/
theorem PacerTells.within2 (r b l t : Int) : ∃ r' b' l' t', pacer_within.f r b l t = some (r', b', l', t') ∧ PacerTells.ok r' b' l' t' ∧ r' = mn (mx r 1) 1099511627776 ∧ b' = mn (mx b 1) 1099511627776 ∧ l' = mn (mx l (-2305843009213693952)) (b' * 1000000) ∧ t' = mn (mx t 0) 1125899906842624 := by
  have hb : 1 ≤ mn (mx b 1) 1099511627776 ∧ mn (mx b 1) 1099511627776 ≤ 1099511627776 := by unfold mx mn; (repeat' split) <;> omega
  have hr : 1 ≤ mn (mx r 1) 1099511627776 ∧ mn (mx r 1) 1099511627776 ≤ 1099511627776 := by unfold mx mn; (repeat' split) <;> omega
  have ht : 0 ≤ mn (mx t 0) 1125899906842624 ∧ mn (mx t 0) 1125899906842624 ≤ 1125899906842624 := by unfold mx mn; (repeat' split) <;> omega
  refine ⟨mn (mx r 1) 1099511627776, mn (mx b 1) 1099511627776, mn (mx l (-2305843009213693952)) (mn (mx b 1) 1099511627776 * 1000000), mn (mx t 0) 1125899906842624, ?_, ?_, rfl, rfl, rfl, rfl⟩
  · unfold pacer_within.f
    rw [PacerTells.mxmn 1 r _ (by omega), PacerTells.mxmn 1 b _ (by omega), PacerTells.mxmn 0 t _ (by omega)]
    generalize mn (mx b 1) 1099511627776 = b' at *
    rw [PacerTells.w64 (x := b' * 1000000) (by omega) (by omega), PacerTells.mxmn _ l _ (by omega)]
  · generalize mn (mx b 1) 1099511627776 = b' at *
    refine ⟨hr.1, hr.2, hb.1, hb.2, ?_, ?_, ht.1, ht.2⟩ <;> (unfold mx mn; (repeat' split) <;> omega)

/-- The level behind so many ticks. -/
def PacerTells.lev (r b l d : Int) : Int := if b * 1000000 < l + r * d then b * 1000000 else l + r * d

theorem PacerTells.fill_ (r b l t now : Int) (k : Nat) (h : PacerTells.ok r b l t) (hn : 0 ≤ now ∧ now ≤ 1125899906842624) :
    pacer_Fill.f (k + 1) r b l t now = some (r, b, (if t < now then PacerTells.lev r b l (now - t) else l), (if t < now then now else t)) := by
  have hw := PacerTells.within_ r b l t h
  obtain ⟨h1, h2, h3, h4, h5, h6, h7, h8⟩ := h
  unfold pacer_Fill.f
  rw [hw, PacerTells.clampm_]
  have e : mx 0 (mn now 1125899906842624) = now := by unfold mx mn; (repeat' split) <;> omega
  simp only [Option.bind_some]
  rw [e]
  by_cases c : t < now
  · rw [if_pos (show now > t by omega), if_pos c, if_pos c, PacerTells.w64 (x := now - t) (by omega) (by omega), PacerTells.mulnn_ r (now - t) k (by omega) (by omega)]
    simp only [Option.bind_some]
    have hp : 0 ≤ r * (now - t) := Int.mul_nonneg (by omega) (by omega)
    unfold PacerTells.lev
    generalize r * (now - t) = p at *
    rw [PacerTells.add_ l _ (by omega) (by split <;> omega)]
    simp only [Option.bind_some]
    rw [PacerTells.w64 (x := b * 1000000) (by omega) (by omega), PacerTells.mn_]
    congr 3
    unfold PacerTells.keep
    (repeat' split) <;> first | omega | rfl | (congr 1; omega; done) | (congr 1; done)
  · rw [if_neg (show ¬ now > t by omega), if_neg c, if_neg c]

theorem PacerTells.need_ (r b l t size : Int) (hb : 1 ≤ b ∧ b ≤ 1099511627776) : pacer_need.f r b l t size = some (mn (mx size 0) b * 1000000) := by
  unfold pacer_need.f
  rw [PacerTells.clampm_, PacerTells.mxmn 0 size b (by omega)]
  simp only [Option.bind_some]
  have : 0 ≤ mn (mx size 0) b ∧ mn (mx size 0) b ≤ b := by unfold mx mn; (repeat' split) <;> omega
  rw [PacerTells.w64 (by omega) (by omega)]

/-- What the reference fills. -/
theorem PacerTells.rfill_ (r b l t now : Int) (k : Nat) : ∃ r' b' l' t' : Int, pacer_Fill.f (k + 1) r b l t now = some (r', b', l', t') ∧ leatref23_Fill.f r b l t now = some (r', b', l', t') ∧ PacerTells.ok r' b' l' t' := by
  obtain ⟨r', b', l', t', e1, hok, er, eb, el, et⟩ := PacerTells.within2 r b l t
  have e2 : leatref23_Within.f r b l t = some (r', b', l', t') := by unfold leatref23_Within.f; rw [er, el, eb, et]
  have hn : 0 ≤ mn (mx now 0) 1125899906842624 ∧ mn (mx now 0) 1125899906842624 ≤ 1125899906842624 := by unfold mx mn; (repeat' split) <;> omega
  have e3 : pacer_Fill.f (k + 1) r b l t now = pacer_Fill.f (k + 1) r' b' l' t' (mn (mx now 0) 1125899906842624) := by
    unfold pacer_Fill.f
    rw [e1, PacerTells.within_ _ _ _ _ hok, PacerTells.clampm_, PacerTells.clampm_, PacerTells.mxmn 0 now _ (by omega)]
    generalize mn (mx now 0) 1125899906842624 = n at *
    have e : mx 0 (mn n 1125899906842624) = n := by unfold mx mn; (repeat' split) <;> omega
    rw [e]
  rw [e3]
  unfold leatref23_Fill.f
  rw [e2]
  simp only [Option.bind_some]
  generalize mn (mx now 0) 1125899906842624 = n at *
  rw [PacerTells.fill_ r' b' l' t' n k hok hn]
  obtain ⟨h1, h2, h3, h4, h5, h6, h7, h8⟩ := hok
  by_cases c : n ≤ t'
  · rw [if_pos c, if_neg (by omega), if_neg (by omega)]
    exact ⟨_, _, _, _, rfl, rfl, h1, h2, h3, h4, h5, h6, h7, h8⟩
  · rw [if_neg c, if_pos (by omega), if_pos (by omega), if_neg (by omega)]
    have hp : 0 ≤ r' * (n - t') := Int.mul_nonneg (by omega) (by omega)
    have hq : Int.tdiv (b' * 1000000 - l') r' = (b' * 1000000 - l') / r' := Int.tdiv_eq_ediv_of_nonneg (by omega)
    have hq0 : 0 ≤ (b' * 1000000 - l') / r' := Int.ediv_nonneg (by omega) (by omega)
    have hq1 : (b' * 1000000 - l') / r' ≤ b' * 1000000 - l' := Int.ediv_le_self _ (by omega)
    have hdm := Int.mul_ediv_add_emod (b' * 1000000 - l') r'
    have hm0 := Int.emod_nonneg (b' * 1000000 - l') (show r' ≠ 0 by omega)
    have hm1 := Int.emod_lt_of_pos (b' * 1000000 - l') (show 0 < r' by omega)
    rw [PacerTells.w64 (x := n - t') (by omega) (by omega), PacerTells.w64 (x := b' * 1000000) (by omega) (by omega), PacerTells.w64 (x := b' * 1000000 - l') (by omega) (by omega), hq, PacerTells.w64 (by omega) (by omega)]
    unfold PacerTells.lev
    by_cases g : n - t' > (b' * 1000000 - l') / r'
    · have hg : r' * ((b' * 1000000 - l') / r' + 1) ≤ r' * (n - t') := Int.mul_le_mul_of_nonneg_left (by omega) (by omega)
      rw [Int.mul_add] at hg
      rw [if_pos g]
      refine ⟨r', b', b' * 1000000, n, ?_, rfl, h1, h2, h3, h4, by omega, by omega, by omega, by omega⟩
      by_cases u : b' * 1000000 < l' + r' * (n - t')
      · rw [if_pos u]
      · rw [if_neg u]; congr 3; omega
    · have hg : r' * (n - t') ≤ r' * ((b' * 1000000 - l') / r') := Int.mul_le_mul_of_nonneg_left (by omega) (by omega)
      rw [if_neg g, if_neg (by omega), PacerTells.w64 (x := r' * (n - t')) (by omega) (by omega), PacerTells.w64 (by omega) (by omega)]
      exact ⟨_, _, _, _, rfl, rfl, h1, h2, h3, h4, by omega, by omega, by omega, by omega⟩

/-- What is left, as the program's own package tells it. -/
def PacerTells.sat_Mod.f (a0 : Int) (a1 : Int) : Option (Int) := if a1 ≤ 0 then (some 0) else (if a1 = 0 then (none) else (if (Int.tmod a0 a1) < 0 then (some (wrap64 ((Int.tmod a0 a1) + a1))) else (some (Int.tmod a0 a1))))
/-- What is known of a quotient and a rest. -/
theorem PacerTells.parts (a b : Int) (hb : b ≠ 0) : a = a.tdiv b * b + a.tmod b ∧ (0 ≤ a → 0 ≤ a.tmod b) ∧ (a ≤ 0 → a.tmod b ≤ 0) ∧ (a.tmod b).natAbs < b.natAbs ∧ (a.tdiv b).natAbs ≤ a.natAbs := by
  refine ⟨by have := Int.mul_tdiv_add_tmod a b; rw [Int.mul_comm]; omega, fun h => Int.tmod_nonneg b h, fun h => ?_, ?_, ?_⟩
  · have h2 := Int.tmod_nonneg b (show 0 ≤ -a by omega)
    rw [Int.neg_tmod] at h2; omega
  · rw [Int.natAbs_tmod]; exact Nat.mod_lt _ (by omega)
  · rw [Int.natAbs_tdiv]; exact Nat.div_le_self _ _

/-- Quotient and rest of a divisor above 0. -/
theorem PacerTells.div_ (a b : Int) (k : Nat) (ha : -9223372036854775808 ≤ a ∧ a ≤ 9223372036854775807) (hb : 0 < b ∧ b ≤ 9223372036854775807) :
    ∃ q r, sat_Div.f (k + 1) a b = some q ∧ PacerTells.sat_Mod.f a b = some r ∧ 0 ≤ r ∧ r < b ∧ q * b + r = a := by
  obtain ⟨e, p1, p2, p3, p4⟩ := PacerTells.parts a b (by omega)
  unfold sat_Div.f PacerTells.sat_Mod.f
  have l : (if a = -9223372036854775808 then sat_Div.j0 (k + 1) a b (b == -1) else sat_Div.j0 (k + 1) a b false) = sat_Div.j0 (k + 1) a b false := by
    rw [show (b == -1) = false by simp; omega]; split <;> rfl
  rw [if_neg (by omega), l]
  simp only [sat_Div.j0]
  rw [if_neg (by decide), if_neg (by omega), if_neg (show ¬ b ≤ 0 by omega), if_neg (show ¬ b = 0 by omega)]
  have hs : a < 0 → a.tdiv b ≤ 0 := fun h => by
    have h2 := Int.tdiv_nonneg (show 0 ≤ -a by omega) (show 0 ≤ b by omega)
    rw [Int.neg_tdiv] at h2; omega
  have w1 : wrap64 (a.tdiv b) = a.tdiv b := PacerTells.w64 (by omega) (by omega)
  have hd : decide (b < 0) = false := by simp; omega
  rw [w1, hd]
  by_cases h2 : a.tmod b = 0
  · rw [if_pos h2, if_neg (show ¬ a.tmod b < 0 by omega)]
    exact ⟨_, _, rfl, rfl, by omega, by omega, by omega⟩
  · rw [if_neg h2]
    by_cases h3 : a < 0
    · rw [if_pos (by simpa using h3), if_pos (by omega)]
      have hlow : -9223372036854775808 < a.tdiv b := by
        have h4 : (a.tdiv b).natAbs * b.natAbs ≤ a.natAbs := by
          rw [Int.natAbs_tdiv]; exact Nat.div_mul_le_self _ _
        by_cases h5 : b = 1
        · subst h5; have := Int.tmod_one a; omega
        · have h6 := Nat.mul_le_mul_left (a.tdiv b).natAbs (show 2 ≤ b.natAbs by omega)
          omega
      refine ⟨_, _, rfl, rfl, ?_, ?_, ?_⟩
      · rw [PacerTells.w64 (by omega) (by omega)]; omega
      · rw [PacerTells.w64 (by omega) (by omega)]; omega
      · rw [PacerTells.w64 (by omega) (by omega), PacerTells.w64 (by omega) (by omega), Int.sub_mul]; omega
    · rw [if_neg (by simpa using h3), if_neg (by omega)]
      exact ⟨_, _, rfl, rfl, by omega, by omega, by omega⟩


/-- A quotient, downwards. -/
theorem PacerTells.divp_ (a b : Int) (k : Nat) (ha : -9223372036854775808 ≤ a ∧ a ≤ 9223372036854775807) (hb : 0 < b ∧ b ≤ 9223372036854775807) : sat_Div.f (k + 1) a b = some (a / b) := by
  obtain ⟨q, r, e1, _, h0, h1, h2⟩ := PacerTells.div_ a b k ha hb
  have : a / b = q := by
    rw [← h2, Int.mul_comm q b, Int.add_comm, Int.add_mul_ediv_left _ _ (by omega), Int.ediv_eq_zero_of_lt h0 h1, Int.zero_add]
  rw [e1, this]


theorem PacerTells.when_ (r b l t now size : Int) (k : Nat) : ∃ a, pacer_When.f (k + 1) r b l t now size = some a ∧ leatref23_When.f r b l t now size = some a := by
  unfold pacer_When.f leatref23_When.f leatref23_Need.f
  obtain ⟨r', b', l', t', e1, e2, hok⟩ := PacerTells.rfill_ r b l t now k
  rw [e1, e2]
  simp only [Option.bind_some]
  have hb : 1 ≤ b' ∧ b' ≤ 1099511627776 := ⟨hok.2.2.1, hok.2.2.2.1⟩
  rw [PacerTells.need_ r' b' l' t' size hb]
  simp only [Option.bind_some]
  have hn : 0 ≤ mn (mx size 0) b' ∧ mn (mx size 0) b' ≤ b' := by unfold mx mn; (repeat' split) <;> omega
  obtain ⟨h1, h2, h3, h4, h5, h6, h7, h8⟩ := hok
  rw [PacerTells.w64 (x := mn (mx size 0) b' * 1000000) (by omega) (by omega)]
  generalize mn (mx size 0) b' = z at *
  rw [PacerTells.w64 (x := z * 1000000 - l') (by omega) (by omega)]
  generalize hm : z * 1000000 - l' = m at *
  have hm2 : m ≤ 3405354637000000000 := by omega
  by_cases c : m > 0
  · rw [if_pos c, if_neg (by omega), if_neg (by omega), PacerTells.w64 (x := -m) (by omega) (by omega), PacerTells.divp_ (-m) r' k (by omega) (by omega)]
    simp only [Option.bind_some]
    have hq : Int.tdiv m r' = m / r' := Int.tdiv_eq_ediv_of_nonneg (by omega)
    have hq0 : 0 ≤ m / r' := Int.ediv_nonneg (by omega) (by omega)
    have hq1 : m / r' ≤ m := Int.ediv_le_self _ (by omega)
    have hdm := Int.mul_ediv_add_emod m r'
    have hm0 := Int.emod_nonneg m (show r' ≠ 0 by omega)
    have hm1 := Int.emod_lt_of_pos m (show 0 < r' by omega)
    rw [hq, PacerTells.w64 (x := m / r') (by omega) (by omega)]
    have hcm : m / r' * r' = r' * (m / r') := Int.mul_comm _ _
    rw [PacerTells.w64 (x := m / r' * r') (by omega) (by omega)]
    by_cases g : m / r' * r' < m
    · have hneg : (-m) / r' = -(m / r' + 1) := by
        rw [show -m = (r' - m % r') + r' * (-(m / r' + 1)) by rw [Int.mul_neg, Int.mul_add]; omega, Int.add_mul_ediv_left _ _ (by omega), Int.ediv_eq_zero_of_lt (by omega) (by omega), Int.zero_add]
      rw [if_pos g, hneg, PacerTells.w64 (x := m / r' + 1) (by omega) (by omega)]
      exact ⟨_, rfl, by congr 2; omega⟩
    · have hneg : (-m) / r' = -(m / r') := by
        rw [show -m = r' * (-(m / r')) by rw [Int.mul_neg]; omega, Int.mul_ediv_cancel_left _ (by omega)]
      rw [if_neg g, hneg]
      exact ⟨_, rfl, by congr 2; omega⟩
  · rw [if_neg c, if_pos (by omega)]
    exact ⟨_, rfl, rfl⟩

theorem PacerTells.rate_ (c s g : Int) (k : Nat) : ∃ a, pacer_Rate.f (k + 1) c s g = some a ∧ leatref23_Rate.f c s g = some a := by
  unfold pacer_Rate.f leatref23_Rate.f leatref23_keep.f
  rw [PacerTells.clampm_, PacerTells.clampm_, PacerTells.clampm_, PacerTells.mxmn 0 c _ (by omega), PacerTells.mxmn 1 s _ (by omega), PacerTells.mxmn 0 g _ (by omega)]
  have hc : 0 ≤ mn (mx c 0) 1073741824 ∧ mn (mx c 0) 1073741824 ≤ 1073741824 := by unfold mx mn; (repeat' split) <;> omega
  have hs : 1 ≤ mn (mx s 1) 1125899906842624 ∧ mn (mx s 1) 1125899906842624 ≤ 1125899906842624 := by unfold mx mn; (repeat' split) <;> omega
  have hg : 0 ≤ mn (mx g 0) 16777216 ∧ mn (mx g 0) 16777216 ≤ 16777216 := by unfold mx mn; (repeat' split) <;> omega
  generalize mn (mx c 0) 1073741824 = c' at *
  generalize mn (mx s 1) 1125899906842624 = s' at *
  generalize mn (mx g 0) 16777216 = g' at *
  simp only [Option.bind_some]
  rw [if_neg (by omega), if_neg (by omega), PacerTells.w64 (x := c' * 1000000) (by omega) (by omega), show Int.tdiv (c' * 1000000) s' = c' * 1000000 / s' from Int.tdiv_eq_ediv_of_nonneg (by omega)]
  have hq0 : 0 ≤ c' * 1000000 / s' := Int.ediv_nonneg (by omega) (by omega)
  have hq1 : c' * 1000000 / s' ≤ c' * 1000000 := Int.ediv_le_self _ (by omega)
  generalize c' * 1000000 / s' = n at *
  rw [PacerTells.w64 (x := n) (by omega) (by omega), show Int.tdiv n 1048576 = n / 1048576 from Int.tdiv_eq_ediv_of_nonneg hq0, show Int.tmod n 1048576 = n % 1048576 from Int.tmod_eq_emod_of_nonneg hq0, PacerTells.w64 (x := n / 1048576) (by omega) (by omega)]
  have ha : 0 ≤ n / 1048576 ∧ n / 1048576 ≤ 1073741824 := by omega
  have hr : 0 ≤ n % 1048576 ∧ n % 1048576 ≤ 1048575 := by omega
  generalize n / 1048576 = a at *
  generalize n % 1048576 = r at *
  have hag : 0 ≤ a * g' ∧ a * g' ≤ 18014398509481984 := ⟨Int.mul_nonneg ha.1 hg.1, by have := Int.mul_le_mul ha.2 hg.2 hg.1 (by omega); omega⟩
  have hrg : 0 ≤ r * g' ∧ r * g' ≤ 17592186044416 := ⟨Int.mul_nonneg hr.1 hg.1, by have := Int.mul_le_mul hr.2 hg.2 hg.1 (by omega); omega⟩
  rw [PacerTells.mulnn_ a g' k (by omega) (by omega), if_neg (by omega)]
  simp only [Option.bind_some]
  rw [PacerTells.w64 (x := r * g') (by omega) (by omega), show Int.tdiv (r * g') 1048576 = r * g' / 1048576 from Int.tdiv_eq_ediv_of_nonneg hrg.1, PacerTells.w64 (x := r * g' / 1048576) (by omega) (by omega), PacerTells.w64 (x := a * g') (by omega) (by omega), PacerTells.add_ _ _ (by omega) (by omega), PacerTells.kk _ (by omega) (by omega)]
  simp only [Option.bind_some]
  rw [PacerTells.w64 (by omega) (by omega), PacerTells.clampm_, PacerTells.mxmn 1 _ _ (by omega)]
  exact ⟨_, rfl, rfl⟩

theorem PacerTells : leatlaw23_PacerTells.Pure := by
  intro r b l t now x y z w0 w1 w2 w3 w4 w5 w6 w7
  refine ⟨5, ?_⟩
  have hw : leatlaw23_works.f (4 + 1) = some true := by kernel_rfl
  unfold leatlaw23_PacerTells.f
  obtain ⟨a, e1, e2⟩ := PacerTells.when_ r b l t now x 4
  obtain ⟨c, e3, e4⟩ := PacerTells.rate_ x y z 4
  rw [e1, e2, e3, e4, hw]
  simp

end Go.Proofs.Ythoeidcpemfmlaa.Pure
