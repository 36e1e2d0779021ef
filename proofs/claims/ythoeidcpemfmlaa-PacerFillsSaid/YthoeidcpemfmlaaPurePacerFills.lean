/- The pure statement of PacerFills: any bucket is filled, and spent of, as the reference does. -/
import Derived.Test.YthoeidcpemfmlaaPPacerFillsx4
import Derived.Lib.Mul64
import Derived.Laws.Bits64
namespace Go.Proofs.Ythoeidcpemfmlaa.Pure
open Go.RowKit Go.Proofs.Ythoeidcpemfmlaa.PPacerFills Go.Proofs.YthoeidcpemfmlaaW.PrintWords Go.Proofs.YthoeidcpemfmlaaW.PrintLast Go.Proofs.YthoeidcpemfmlaaW.PrintMore Go.Proofs.Ythoeidcpemfmlaa.Inj
open Go.Lib

theorem PacerFills.wrap_toInt (v : BitVec 64) : IntKind.i64.wrap (v.toNat : Int) = v.toInt := by
  have := v.isLt
  rw [IntKind.wrap_i64, BitVec.toInt_eq_toNat_cond]
  split <;> omega
theorem PacerFills.msb_ofInt {x : Int} (h0 : -9223372036854775808 ≤ x) (h1 : x ≤ 9223372036854775807) : (BitVec.ofInt 64 x).msb = decide (x < 0) := by
  rw [BitVec.msb_eq_toInt, BitVec.toInt_ofInt]
  have : x.bmod (2 ^ 64) = x := by
    rw [Int.bmod_def]; simp only [Nat.reducePow]; split <;> omega
  rw [this]
theorem PacerFills.neg_msb (v : BitVec 64) : IntKind.i64.wrap (v.toNat : Int) < 0 ↔ v.msb = true := by
  rw [PacerFills.wrap_toInt, BitVec.msb_eq_toInt]; simp
theorem PacerFills.bits_range (op : BinOp) (x y : Int) : -9223372036854775808 ≤ Go.bits op .i64 x y ∧ Go.bits op .i64 x y ≤ 9223372036854775807 := by
  unfold Go.bits
  show _ ≤ IntKind.i64.wrap _ ∧ IntKind.i64.wrap _ ≤ _
  rw [IntKind.wrap_i64]; omega
theorem PacerFills.and_neg {x y : Int} (hx : -9223372036854775808 ≤ x ∧ x ≤ 9223372036854775807) (hy : -9223372036854775808 ≤ y ∧ y ≤ 9223372036854775807) :
    Go.bits .and .i64 x y < 0 ↔ x < 0 ∧ y < 0 := by
  show IntKind.i64.wrap ((BitVec.ofInt 64 x &&& BitVec.ofInt 64 y).toNat : Int) < 0 ↔ _
  rw [PacerFills.neg_msb, BitVec.msb_and, PacerFills.msb_ofInt hx.1 hx.2, PacerFills.msb_ofInt hy.1 hy.2]; simp
theorem PacerFills.xor_neg {x y : Int} (hx : -9223372036854775808 ≤ x ∧ x ≤ 9223372036854775807) (hy : -9223372036854775808 ≤ y ∧ y ≤ 9223372036854775807) :
    Go.bits .xor .i64 x y < 0 ↔ ((x < 0 ∧ ¬ y < 0) ∨ (¬ x < 0 ∧ y < 0)) := by
  show IntKind.i64.wrap ((BitVec.ofInt 64 x ^^^ BitVec.ofInt 64 y).toNat : Int) < 0 ↔ _
  rw [PacerFills.neg_msb, BitVec.msb_xor, PacerFills.msb_ofInt hx.1 hx.2, PacerFills.msb_ofInt hy.1 hy.2]
  by_cases h1 : x < 0 <;> by_cases h2 : y < 0 <;> simp [h1, h2] <;> omega

theorem PacerFills.range {a : Int} (h : (Lit.int .i64 a).wf = true) : -9223372036854775808 ≤ a ∧ a ≤ 9223372036854775807 := by
  simp only [Lit.wf, IntKind.min, IntKind.max, IntKind.signed, IntKind.bits, Bool.and_eq_true, decide_eq_true_eq, if_true] at h
  omega
theorem PacerFills.w64 {x : Int} (h0 : -9223372036854775808 ≤ x) (h1 : x ≤ 9223372036854775807) : wrap64 x = x := by
  unfold wrap64; omega
theorem PacerFills.wr (x : Int) : -9223372036854775808 ≤ wrap64 x ∧ wrap64 x ≤ 9223372036854775807 := by
  unfold wrap64; omega

/-- A number kept between the ends. -/
def PacerFills.keep (x : Int) : Int := if x < -9223372036854775808 then -9223372036854775808 else if 9223372036854775807 < x then 9223372036854775807 else x

theorem PacerFills.end_ (b : Bool) : sat_end.f b = some (if b = true then -9223372036854775808 else 9223372036854775807) := by
  cases b <;> rfl

theorem PacerFills.add_ (a b : Int) (ha : -9223372036854775808 ≤ a ∧ a ≤ 9223372036854775807) (hb : -9223372036854775808 ≤ b ∧ b ≤ 9223372036854775807) :
    sat_Add.f a b = some (PacerFills.keep (a + b)) := by
  unfold sat_Add.f
  have h1 := PacerFills.xor_neg ha (PacerFills.wr (a + b))
  have h2 := PacerFills.xor_neg hb (PacerFills.wr (a + b))
  have h3 := PacerFills.and_neg (PacerFills.bits_range .xor a (wrap64 (a + b))) (PacerFills.bits_range .xor b (wrap64 (a + b)))
  rw [h1, h2] at h3
  have hw : wrap64 (a + b) = if a + b < -9223372036854775808 then a + b + 18446744073709551616 else if 9223372036854775807 < a + b then a + b - 18446744073709551616 else a + b := by
    unfold wrap64; (repeat' split) <;> omega
  clear h1 h2
  unfold PacerFills.keep
  by_cases c1 : a + b < -9223372036854775808
  · rw [if_pos c1] at hw ⊢
    rw [if_pos (h3.mpr (by omega)), PacerFills.end_]; simp only [Option.bind_some]; rw [if_pos (by simp; omega)]
  · rw [if_neg c1] at hw ⊢
    by_cases c2 : 9223372036854775807 < a + b
    · rw [if_pos c2] at hw ⊢
      rw [if_pos (h3.mpr (by omega)), PacerFills.end_]; simp only [Option.bind_some]; rw [if_neg (by simp; omega)]
    · rw [if_neg c2] at hw ⊢
      rw [if_neg (fun h => by have := h3.mp h; omega), hw]

theorem PacerFills.mask32 (z : Int) (h0 : 0 ≤ z) (h1 : z < 18446744073709551616) : Go.bits .and .u64 z 4294967295 = z % 4294967296 := by
  have h := bits_mask .u64 64 (by decide) (fun n h₀ h₁ => by rw [IntKind.wrap_u64]; omega) 32 (by decide) z h0 (by simpa using h1)
  simpa using h
theorem PacerFills.mul64 (X Y : Nat) (hX : X < 18446744073709551616) (hY : Y < 18446744073709551616) :
    bits_Mul64.f (X : Int) (Y : Int) = some (((X * Y / 18446744073709551616 : Nat) : Int), ((X * Y % 18446744073709551616 : Nat) : Int)) := by
  unfold bits_Mul64.f
  obtain ⟨m1, m2, m3, m4⟩ := mul64_hi X Y hX hY
  have b11 := half_mul_le (a := X / 4294967296) (b := Y / 4294967296) (by omega) (by omega)
  have b10 := half_mul_le (a := X / 4294967296) (b := Y % 4294967296) (by omega) (by omega)
  have b01 := half_mul_le (a := X % 4294967296) (b := Y / 4294967296) (by omega) (by omega)
  have b00 := half_mul_le (a := X % 4294967296) (b := Y % 4294967296) (by omega) (by omega)
  rw [PacerFills.mask32 (X : Int) (by omega) (by omega), PacerFills.mask32 (Y : Int) (by omega) (by omega)]
  have e11 : (X : Int) / 4294967296 * ((Y : Int) / 4294967296) = ((X / 4294967296 * (Y / 4294967296) : Nat) : Int) := by simp
  have e10 : (X : Int) / 4294967296 * ((Y : Int) % 4294967296) = ((X / 4294967296 * (Y % 4294967296) : Nat) : Int) := by simp
  have e01 : (X : Int) % 4294967296 * ((Y : Int) / 4294967296) = ((X % 4294967296 * (Y / 4294967296) : Nat) : Int) := by simp
  have e00 : (X : Int) % 4294967296 * ((Y : Int) % 4294967296) = ((X % 4294967296 * (Y % 4294967296) : Nat) : Int) := by simp
  have exy : (X : Int) * (Y : Int) = ((X * Y : Nat) : Int) := by simp
  rw [e11, e10, e01, e00, exy]
  generalize X / 4294967296 * (Y / 4294967296) = p11 at *
  generalize X / 4294967296 * (Y % 4294967296) = p10 at *
  generalize X % 4294967296 * (Y / 4294967296) = p01 at *
  generalize X % 4294967296 * (Y % 4294967296) = p00 at *
  generalize X * Y = p at *
  simp only [IntKind.wrap_u64]
  rw [PacerFills.mask32 _ (by omega) (by omega)]
  congr 2
  omega
theorem PacerFills.size_ (a : Int) (ha : -9223372036854775808 ≤ a ∧ a ≤ 9223372036854775807) : sat_size.f a = some (a.natAbs : Int) := by
  unfold sat_size.f
  split
  · have e : IntKind.u64.wrap (-(IntKind.u64.wrap a)) = (a.natAbs : Int) := by rw [IntKind.wrap_u64, IntKind.wrap_u64]; omega
    rw [e]
  · have e : IntKind.u64.wrap a = (a.natAbs : Int) := by rw [IntKind.wrap_u64]; omega
    rw [e]

/-- A size with a sign, kept at its end. -/
def PacerFills.ans (below : Bool) (T : Nat) : Int :=
  if below = true then (if 9223372036854775808 < T then -9223372036854775808 else -(T : Int)) else (if 9223372036854775808 ≤ T then 9223372036854775807 else (T : Int))

theorem PacerFills.tail_ (T k : Nat) (s : Bool) (hT : T < 340282366920938463463374607431768211456) :
    (if ((T / 18446744073709551616 : Nat) : Int) > 0 then (sat_end.f s).bind fun t => some t else (sat_signed.f (k + 1) ((T % 18446744073709551616 : Nat) : Int) s).bind fun t => some t) = some (PacerFills.ans s T) := by
  unfold PacerFills.ans
  by_cases h : ((T / 18446744073709551616 : Nat) : Int) > 0
  · rw [if_pos h, PacerFills.end_]
    cases s
    · rw [if_neg (by decide), if_neg (by decide), if_pos (by omega)]; rfl
    · rw [if_pos rfl, if_pos rfl, if_pos (by omega)]; rfl
  · rw [if_neg h]
    unfold sat_signed.f
    simp only [sat_signed.j0]
    have e : T % 18446744073709551616 = T := by omega
    rw [e]
    cases s
    · simp only [Bool.false_eq_true, if_false]
      by_cases h1 : 9223372036854775808 ≤ T
      · rw [if_pos (by omega), if_pos h1]; rfl
      · rw [if_neg (by omega), if_neg h1, PacerFills.w64 (by omega) (by omega)]; rfl
    · simp only [if_true]
      by_cases h1 : 9223372036854775808 < T
      · rw [if_pos (by simp; omega), if_pos h1]; rfl
      · rw [if_neg h1]
        by_cases h2 : T = 9223372036854775808
        · subst h2; rfl
        · rw [if_neg (by simp; omega), PacerFills.w64 (x := (T : Int)) (by omega) (by omega), PacerFills.w64 (by omega) (by omega)]; rfl


/-- A product of numbers that are not below 0. -/
theorem PacerFills.mulnn_ (a b : Int) (k : Nat) (ha : 0 ≤ a ∧ a ≤ 9223372036854775807) (hb : 0 ≤ b ∧ b ≤ 9223372036854775807) :
    sat_Mul.f (k + 1) a b = some (if 9223372036854775807 < a * b then 9223372036854775807 else a * b) := by
  unfold sat_Mul.f
  rw [PacerFills.size_ a (by omega), PacerFills.size_ b (by omega)]
  simp only [Option.bind_some]
  rw [PacerFills.mul64 a.natAbs b.natAbs (by omega) (by omega)]
  simp only [Option.bind_some]
  rw [decide_eq_false (show ¬ a < 0 by omega), decide_eq_false (show ¬ b < 0 by omega)]
  have hT : a.natAbs * b.natAbs < 340282366920938463463374607431768211456 := by
    have h1 : a.natAbs * b.natAbs ≤ 9223372036854775808 * 9223372036854775808 := Nat.mul_le_mul (by omega) (by omega)
    omega
  have hab : a * b = ((a.natAbs * b.natAbs : Nat) : Int) := by
    rw [Int.natCast_mul, Int.natAbs_of_nonneg ha.1, Int.natAbs_of_nonneg hb.1]
  have ht := PacerFills.tail_ (a.natAbs * b.natAbs) k false hT
  rw [hab]
  generalize a.natAbs * b.natAbs = T at *
  refine Eq.trans ht ?_
  unfold PacerFills.ans
  rw [if_neg (by decide)]
  by_cases h : 9223372036854775808 ≤ T
  · rw [if_pos h, if_pos (by omega)]
  · rw [if_neg h, if_neg (by omega)]

theorem PacerFills.clampm_ (x lo hi : Int) : sat_Clamp.f x lo hi = some (mx lo (mn x hi)) := rfl


theorem PacerFills.mxmn (lo x hi : Int) (h : lo ≤ hi) : mx lo (mn x hi) = mn (mx x lo) hi := by unfold mx mn; (repeat' split) <;> omega
theorem PacerFills.mn_ (a b : Int) : mn a b = if b < a then b else a := rfl
theorem PacerFills.mx_ (a b : Int) : mx a b = if a < b then b else a := rfl
theorem PacerFills.kk (x : Int) (h0 : -9223372036854775808 ≤ x) (h1 : x ≤ 9223372036854775807) : PacerFills.keep x = x := by unfold PacerFills.keep; rw [if_neg (by omega), if_neg (by omega)]

/-- A bucket within its ends. -/
def PacerFills.ok (r b l t : Int) : Prop := 1 ≤ r ∧ r ≤ 1099511627776 ∧ 1 ≤ b ∧ b ≤ 1099511627776 ∧ -2305843009213693952 ≤ l ∧ l ≤ b * 1000000 ∧ 0 ≤ t ∧ t ≤ 1125899906842624

theorem PacerFills.within_ (r b l t : Int) (h : PacerFills.ok r b l t) : pacer_within.f r b l t = some (r, b, l, t) := by
  obtain ⟨h1, h2, h3, h4, h5, h6, h7, h8⟩ := h
  unfold pacer_within.f
  have e : ∀ lo x hi : Int, lo ≤ x → x ≤ hi → mx lo (mn x hi) = x := fun lo x hi p q => by unfold mx mn; (repeat' split) <;> omega
  rw [e 1 r _ h1 h2, e 1 b _ h3 h4, PacerFills.w64 (x := b * 1000000) (by omega) (by omega), e _ l _ h5 h6, e _ t _ h7 h8]

/-- What within tells of any bucket. -/
theorem PacerFills.within2 (r b l t : Int) : ∃ r' b' l' t', pacer_within.f r b l t = some (r', b', l', t') ∧ PacerFills.ok r' b' l' t' ∧ r' = mn (mx r 1) 1099511627776 ∧ b' = mn (mx b 1) 1099511627776 ∧ l' = mn (mx l (-2305843009213693952)) (b' * 1000000) ∧ t' = mn (mx t 0) 1125899906842624 := by
  have hb : 1 ≤ mn (mx b 1) 1099511627776 ∧ mn (mx b 1) 1099511627776 ≤ 1099511627776 := by unfold mx mn; (repeat' split) <;> omega
  have hr : 1 ≤ mn (mx r 1) 1099511627776 ∧ mn (mx r 1) 1099511627776 ≤ 1099511627776 := by unfold mx mn; (repeat' split) <;> omega
  have ht : 0 ≤ mn (mx t 0) 1125899906842624 ∧ mn (mx t 0) 1125899906842624 ≤ 1125899906842624 := by unfold mx mn; (repeat' split) <;> omega
  refine ⟨mn (mx r 1) 1099511627776, mn (mx b 1) 1099511627776, mn (mx l (-2305843009213693952)) (mn (mx b 1) 1099511627776 * 1000000), mn (mx t 0) 1125899906842624, ?_, ?_, rfl, rfl, rfl, rfl⟩
  · unfold pacer_within.f
    rw [PacerFills.mxmn 1 r _ (by omega), PacerFills.mxmn 1 b _ (by omega), PacerFills.mxmn 0 t _ (by omega)]
    generalize mn (mx b 1) 1099511627776 = b' at *
    rw [PacerFills.w64 (x := b' * 1000000) (by omega) (by omega), PacerFills.mxmn _ l _ (by omega)]
  · generalize mn (mx b 1) 1099511627776 = b' at *
    refine ⟨hr.1, hr.2, hb.1, hb.2, ?_, ?_, ht.1, ht.2⟩ <;> (unfold mx mn; (repeat' split) <;> omega)

/-- The level behind so many ticks. -/
def PacerFills.lev (r b l d : Int) : Int := if b * 1000000 < l + r * d then b * 1000000 else l + r * d

theorem PacerFills.fill_ (r b l t now : Int) (k : Nat) (h : PacerFills.ok r b l t) (hn : 0 ≤ now ∧ now ≤ 1125899906842624) :
    pacer_Fill.f (k + 1) r b l t now = some (r, b, (if t < now then PacerFills.lev r b l (now - t) else l), (if t < now then now else t)) := by
  have hw := PacerFills.within_ r b l t h
  obtain ⟨h1, h2, h3, h4, h5, h6, h7, h8⟩ := h
  unfold pacer_Fill.f
  rw [hw, PacerFills.clampm_]
  have e : mx 0 (mn now 1125899906842624) = now := by unfold mx mn; (repeat' split) <;> omega
  simp only [Option.bind_some]
  rw [e]
  by_cases c : t < now
  · rw [if_pos (show now > t by omega), if_pos c, if_pos c, PacerFills.w64 (x := now - t) (by omega) (by omega), PacerFills.mulnn_ r (now - t) k (by omega) (by omega)]
    simp only [Option.bind_some]
    have hp : 0 ≤ r * (now - t) := Int.mul_nonneg (by omega) (by omega)
    unfold PacerFills.lev
    generalize r * (now - t) = p at *
    rw [PacerFills.add_ l _ (by omega) (by split <;> omega)]
    simp only [Option.bind_some]
    rw [PacerFills.w64 (x := b * 1000000) (by omega) (by omega), PacerFills.mn_]
    congr 3
    unfold PacerFills.keep
    (repeat' split) <;> first | omega | rfl | (congr 1; omega; done) | (congr 1; done)
  · rw [if_neg (show ¬ now > t by omega), if_neg c, if_neg c]

theorem PacerFills.need_ (r b l t size : Int) (hb : 1 ≤ b ∧ b ≤ 1099511627776) : pacer_need.f r b l t size = some (mn (mx size 0) b * 1000000) := by
  unfold pacer_need.f
  rw [PacerFills.clampm_, PacerFills.mxmn 0 size b (by omega)]
  simp only [Option.bind_some]
  have : 0 ≤ mn (mx size 0) b ∧ mn (mx size 0) b ≤ b := by unfold mx mn; (repeat' split) <;> omega
  rw [PacerFills.w64 (by omega) (by omega)]

/-- What the reference fills. -/
theorem PacerFills.rfill_ (r b l t now : Int) (k : Nat) : ∃ r' b' l' t' : Int, pacer_Fill.f (k + 1) r b l t now = some (r', b', l', t') ∧ leatref23_Fill.f r b l t now = some (r', b', l', t') ∧ PacerFills.ok r' b' l' t' := by
  obtain ⟨r', b', l', t', e1, hok, er, eb, el, et⟩ := PacerFills.within2 r b l t
  have e2 : leatref23_Within.f r b l t = some (r', b', l', t') := by unfold leatref23_Within.f; rw [er, el, eb, et]
  have hn : 0 ≤ mn (mx now 0) 1125899906842624 ∧ mn (mx now 0) 1125899906842624 ≤ 1125899906842624 := by unfold mx mn; (repeat' split) <;> omega
  have e3 : pacer_Fill.f (k + 1) r b l t now = pacer_Fill.f (k + 1) r' b' l' t' (mn (mx now 0) 1125899906842624) := by
    unfold pacer_Fill.f
    rw [e1, PacerFills.within_ _ _ _ _ hok, PacerFills.clampm_, PacerFills.clampm_, PacerFills.mxmn 0 now _ (by omega)]
    generalize mn (mx now 0) 1125899906842624 = n at *
    have e : mx 0 (mn n 1125899906842624) = n := by unfold mx mn; (repeat' split) <;> omega
    rw [e]
  rw [e3]
  unfold leatref23_Fill.f
  rw [e2]
  simp only [Option.bind_some]
  generalize mn (mx now 0) 1125899906842624 = n at *
  rw [PacerFills.fill_ r' b' l' t' n k hok hn]
  obtain ⟨h1, h2, h3, h4, h5, h6, h7, h8⟩ := hok
  by_cases c : n ≤ t'
  · rw [if_pos c, if_neg (by omega), if_neg (by omega)]
    exact ⟨_, _, _, _, rfl, rfl, h1, h2, h3, h4, h5, h6, h7, h8⟩
  · rw [if_neg c, if_pos (by omega), if_pos (by omega), if_neg (by omega)]
    have hp : 0 ≤ r' * (n - t') := Int.mul_nonneg (by omega) (by omega)
    have hq : Int.tdiv (b' * 1000000 - l') r' = (b' * 1000000 - l') / r' := Int.tdiv_eq_ediv_of_nonneg (by omega)
    have hq0 : 0 ≤ (b' * 1000000 - l') / r' := Int.ediv_nonneg (by omega) (by omega)
    have hq1 : (b' * 1000000 - l') / r' ≤ b' * 1000000 - l' := Int.ediv_le_self _ (by omega)
    have hdm := Int.mul_ediv_add_emod (b' * 1000000 - l') r'
    have hm0 := Int.emod_nonneg (b' * 1000000 - l') (show r' ≠ 0 by omega)
    have hm1 := Int.emod_lt_of_pos (b' * 1000000 - l') (show 0 < r' by omega)
    rw [PacerFills.w64 (x := n - t') (by omega) (by omega), PacerFills.w64 (x := b' * 1000000) (by omega) (by omega), PacerFills.w64 (x := b' * 1000000 - l') (by omega) (by omega), hq, PacerFills.w64 (by omega) (by omega)]
    unfold PacerFills.lev
    by_cases g : n - t' > (b' * 1000000 - l') / r'
    · have hg : r' * ((b' * 1000000 - l') / r' + 1) ≤ r' * (n - t') := Int.mul_le_mul_of_nonneg_left (by omega) (by omega)
      rw [Int.mul_add] at hg
      rw [if_pos g]
      refine ⟨r', b', b' * 1000000, n, ?_, rfl, h1, h2, h3, h4, by omega, by omega, by omega, by omega⟩
      by_cases u : b' * 1000000 < l' + r' * (n - t')
      · rw [if_pos u]
      · rw [if_neg u]; congr 3; omega
    · have hg : r' * (n - t') ≤ r' * ((b' * 1000000 - l') / r') := Int.mul_le_mul_of_nonneg_left (by omega) (by omega)
      rw [if_neg g, if_neg (by omega), PacerFills.w64 (x := r' * (n - t')) (by omega) (by omega), PacerFills.w64 (by omega) (by omega)]
      exact ⟨_, _, _, _, rfl, rfl, h1, h2, h3, h4, by omega, by omega, by omega, by omega⟩


theorem PacerFills : leatlaw23_PacerFills.Pure := by
  intro r b l t now size w0 w1 w2 w3 w4 w5
  refine ⟨5, ?_⟩
  have hw : leatlaw23_works.f (4 + 1) = some true := by kernel_rfl
  unfold leatlaw23_PacerFills.f pacer_Spend.f leatref23_Spend.f leatref23_Need.f
  obtain ⟨r', b', l', t', e1, e2, hok⟩ := PacerFills.rfill_ r b l t now 4
  rw [e1, e2, hw]
  simp only [Option.bind_some]
  have hb : 1 ≤ b' ∧ b' ≤ 1099511627776 := ⟨hok.2.2.1, hok.2.2.2.1⟩
  rw [PacerFills.need_ r' b' l' t' size hb]
  simp only [Option.bind_some]
  have hn : 0 ≤ mn (mx size 0) b' ∧ mn (mx size 0) b' ≤ b' := by unfold mx mn; (repeat' split) <;> omega
  rw [PacerFills.w64 (x := mn (mx size 0) b' * 1000000) (by omega) (by omega)]
  simp

end Go.Proofs.Ythoeidcpemfmlaa.Pure
