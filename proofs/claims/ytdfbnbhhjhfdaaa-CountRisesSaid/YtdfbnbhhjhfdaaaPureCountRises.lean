/- The pure statement of CountRises: no counter ever falls, and together the bytes rise by all that came able. -/
import Derived.Test.YtdfbnbhhjhfdaaaPCountRisesx1
namespace Go.Proofs.Ytdfbnbhhjhfdaaa.Pure
open Go.RowKit Go.Proofs.Ytdfbnbhhjhfdaaa.PCountRises Go.Proofs.YtdfbnbhhjhfdaaaW.PrintWords Go.Proofs.YtdfbnbhhjhfdaaaW.PrintLast Go.Proofs.YtdfbnbhhjhfdaaaW.PrintMore Go.Proofs.Ytdfbnbhhjhfdaaa.Inj

theorem CountRises.wrap_toInt (v : BitVec 64) : IntKind.i64.wrap (v.toNat : Int) = v.toInt := by
  have := v.isLt
  rw [IntKind.wrap_i64, BitVec.toInt_eq_toNat_cond]
  split <;> omega
theorem CountRises.msb_ofInt {x : Int} (h0 : -9223372036854775808 ≤ x) (h1 : x ≤ 9223372036854775807) : (BitVec.ofInt 64 x).msb = decide (x < 0) := by
  rw [BitVec.msb_eq_toInt, BitVec.toInt_ofInt]
  have : x.bmod (2 ^ 64) = x := by
    rw [Int.bmod_def]; simp only [Nat.reducePow]; split <;> omega
  rw [this]
theorem CountRises.neg_msb (v : BitVec 64) : IntKind.i64.wrap (v.toNat : Int) < 0 ↔ v.msb = true := by
  rw [CountRises.wrap_toInt, BitVec.msb_eq_toInt]; simp
theorem CountRises.bits_range (op : BinOp) (x y : Int) : -9223372036854775808 ≤ Go.bits op .i64 x y ∧ Go.bits op .i64 x y ≤ 9223372036854775807 := by
  unfold Go.bits
  show _ ≤ IntKind.i64.wrap _ ∧ IntKind.i64.wrap _ ≤ _
  rw [IntKind.wrap_i64]; omega
theorem CountRises.and_neg {x y : Int} (hx : -9223372036854775808 ≤ x ∧ x ≤ 9223372036854775807) (hy : -9223372036854775808 ≤ y ∧ y ≤ 9223372036854775807) :
    Go.bits .and .i64 x y < 0 ↔ x < 0 ∧ y < 0 := by
  show IntKind.i64.wrap ((BitVec.ofInt 64 x &&& BitVec.ofInt 64 y).toNat : Int) < 0 ↔ _
  rw [CountRises.neg_msb, BitVec.msb_and, CountRises.msb_ofInt hx.1 hx.2, CountRises.msb_ofInt hy.1 hy.2]; simp
theorem CountRises.xor_neg {x y : Int} (hx : -9223372036854775808 ≤ x ∧ x ≤ 9223372036854775807) (hy : -9223372036854775808 ≤ y ∧ y ≤ 9223372036854775807) :
    Go.bits .xor .i64 x y < 0 ↔ ((x < 0 ∧ ¬ y < 0) ∨ (¬ x < 0 ∧ y < 0)) := by
  show IntKind.i64.wrap ((BitVec.ofInt 64 x ^^^ BitVec.ofInt 64 y).toNat : Int) < 0 ↔ _
  rw [CountRises.neg_msb, BitVec.msb_xor, CountRises.msb_ofInt hx.1 hx.2, CountRises.msb_ofInt hy.1 hy.2]
  by_cases h1 : x < 0 <;> by_cases h2 : y < 0 <;> simp [h1, h2] <;> omega

theorem CountRises.range {a : Int} (h : (Lit.int .i64 a).wf = true) : -9223372036854775808 ≤ a ∧ a ≤ 9223372036854775807 := by
  simp only [Lit.wf, IntKind.min, IntKind.max, IntKind.signed, IntKind.bits, Bool.and_eq_true, decide_eq_true_eq, if_true] at h
  omega
theorem CountRises.w64 {x : Int} (h0 : -9223372036854775808 ≤ x) (h1 : x ≤ 9223372036854775807) : wrap64 x = x := by
  unfold wrap64; omega
theorem CountRises.wr (x : Int) : -9223372036854775808 ≤ wrap64 x ∧ wrap64 x ≤ 9223372036854775807 := by
  unfold wrap64; omega

/-- A number kept between the ends. -/
def CountRises.keep (x : Int) : Int := if x < -9223372036854775808 then -9223372036854775808 else if 9223372036854775807 < x then 9223372036854775807 else x

theorem CountRises.end_ (b : Bool) : PSat.sat_end.f b = some (if b = true then -9223372036854775808 else 9223372036854775807) := by
  cases b <;> rfl

theorem CountRises.add_ (a b : Int) (ha : -9223372036854775808 ≤ a ∧ a ≤ 9223372036854775807) (hb : -9223372036854775808 ≤ b ∧ b ≤ 9223372036854775807) :
    PSat.sat_Add.f a b = some (CountRises.keep (a + b)) := by
  unfold PSat.sat_Add.f
  have h1 := CountRises.xor_neg ha (CountRises.wr (a + b))
  have h2 := CountRises.xor_neg hb (CountRises.wr (a + b))
  have h3 := CountRises.and_neg (CountRises.bits_range .xor a (wrap64 (a + b))) (CountRises.bits_range .xor b (wrap64 (a + b)))
  rw [h1, h2] at h3
  have hw : wrap64 (a + b) = if a + b < -9223372036854775808 then a + b + 18446744073709551616 else if 9223372036854775807 < a + b then a + b - 18446744073709551616 else a + b := by
    unfold wrap64; (repeat' split) <;> omega
  clear h1 h2
  unfold CountRises.keep
  by_cases c1 : a + b < -9223372036854775808
  · rw [if_pos c1] at hw ⊢
    rw [if_pos (h3.mpr (by omega)), CountRises.end_]; simp only [Option.bind_some]; rw [if_pos (by simp; omega)]
  · rw [if_neg c1] at hw ⊢
    by_cases c2 : 9223372036854775807 < a + b
    · rw [if_pos c2] at hw ⊢
      rw [if_pos (h3.mpr (by omega)), CountRises.end_]; simp only [Option.bind_some]; rw [if_neg (by simp; omega)]
    · rw [if_neg c2] at hw ⊢
      rw [if_neg (fun h => by have := h3.mp h; omega), hw]


/-- A packet that is counted, where nothing comes to an end. -/
theorem CountRises.take_ (c0 c1 c2 c3 code b : Int) (h0 : -4294967296 ≤ c0 ∧ c0 ≤ 4294967296) (h1 : -4294967296 ≤ c1 ∧ c1 ≤ 4294967296) (h2 : -4294967296 ≤ c2 ∧ c2 ≤ 4294967296) (h3 : -4294967296 ≤ c3 ∧ c3 ≤ 4294967296) (hb : 0 ≤ b ∧ b ≤ 65535) :
    count_Take.f c0 c1 c2 c3 code b = some (if code = 3 then (c0 + 1, c1 + b, c2, c3) else if code = 2 then (c0, c1, c2 + b, c3) else if code = 1 then (c0, c1, c2, c3 + b) else (c0, c1, c2, c3)) := by
  have kk : ∀ x : Int, -9223372036854775808 ≤ x → x ≤ 9223372036854775807 → CountRises.keep x = x := fun x hx hy => by unfold CountRises.keep; rw [if_neg (by omega), if_neg (by omega)]
  unfold count_Take.f
  have hc : mx 0 (mn b 65536) = b := by unfold mx mn; (repeat' split) <;> omega
  rw [hc]
  by_cases e3 : code = 3
  · rw [if_pos e3, if_pos e3, CountRises.add_ c0 1 (by omega) (by omega), CountRises.add_ c1 b (by omega) (by omega), kk _ (by omega) (by omega), kk _ (by omega) (by omega)]; rfl
  rw [if_neg e3, if_neg e3]
  by_cases e2 : code = 2
  · rw [if_pos e2, if_pos e2, CountRises.add_ c2 b (by omega) (by omega), kk _ (by omega) (by omega)]; rfl
  rw [if_neg e2, if_neg e2]
  by_cases e1 : code = 1
  · rw [if_pos e1, if_pos e1, CountRises.add_ c3 b (by omega) (by omega), kk _ (by omega) (by omega)]; rfl
  rw [if_neg e1, if_neg e1]

theorem CountRises.loop_ (l : List Int) (hlen : l.length ≤ 50) (b : Int) (hb : 0 ≤ b ∧ b ≤ 65535) (d : Nat) : ∀ (i p q r s : Int), 0 ≤ i → i ≤ l.length → (l.length : Int) - i = d → d ≤ 50 →
    (-2147483648 - 65536 * (50 - d) ≤ p ∧ p ≤ 2147483648 + 65536 * (50 - d)) → (-2147483648 - 65536 * (50 - d) ≤ q ∧ q ≤ 2147483648 + 65536 * (50 - d)) → (-2147483648 - 65536 * (50 - d) ≤ r ∧ r ≤ 2147483648 + 65536 * (50 - d)) → (-2147483648 - 65536 * (50 - d) ≤ s ∧ s ≤ 2147483648 + 65536 * (50 - d)) →
    ∃ m n o : Nat, m + n + o ≤ d ∧ (∀ k, d + 1 ≤ k → count_All.l0 k b l (l.length : Int) i p q r s = some (p + m, q + m * b, r + n * b, s + o * b)) ∧
      (∀ k (able marked : Int) s0 s1 s2 s3 t0 t1 t2 t3, 0 ≤ able → able ≤ 50 - d → 0 ≤ marked → marked ≤ 50 - d → 2 * d + 1 ≤ k →
        leatlaw15_CountRises.l0 k b able marked l (l.length : Int) i s0 s1 s2 s3 t0 t1 t2 t3 = leatlaw15_CountRises.l0 (k - 2 * d) b (able + m + n + o) (marked + m) l (l.length : Int) (l.length : Int) s0 s1 s2 s3 t0 t1 t2 t3) := by
  induction d with
  | zero =>
    intro i p q r s h0 h1 hd _ hp hq hr hs
    obtain rfl : i = (l.length : Int) := by omega
    refine ⟨0, 0, 0, by omega, fun k hk => ?_, fun k able marked s0 s1 s2 s3 t0 t1 t2 t3 _ _ _ _ hk => ?_⟩
    · obtain ⟨k, rfl⟩ : ∃ m, k = m + 1 := ⟨k - 1, by omega⟩
      rw [count_All.l0, if_neg (by omega)]; simp
    · simp
  | succ d ih =>
    intro i p q r s h0 h1 hd hd5 hp hq hr hs
    have ht := CountRises.take_ p q r s (rd l i) b (by omega) (by omega) (by omega) (by omega) hb
    have key : ∀ (m1 n1 o1 : Nat) (p' q' r' s' : Int), m1 + n1 + o1 ≤ 1 → count_Take.f p q r s (rd l i) b = some (p', q', r', s') → p' = p + m1 → q' = q + m1 * b → r' = r + n1 * b → s' = s + o1 * b →
        (m1 = 1 ↔ rd l i = 3) → (m1 + n1 + o1 = 1 ↔ (1 ≤ rd l i ∧ rd l i ≤ 3)) →
        ∃ m n o : Nat, m + n + o ≤ d + 1 ∧ (∀ k, d + 1 + 1 ≤ k → count_All.l0 k b l (l.length : Int) i p q r s = some (p + m, q + m * b, r + n * b, s + o * b)) ∧
      (∀ k (able marked : Int) s0 s1 s2 s3 t0 t1 t2 t3, 0 ≤ able → able ≤ 50 - (d + 1 : Nat) → 0 ≤ marked → marked ≤ 50 - (d + 1 : Nat) → 2 * (d + 1) + 1 ≤ k →
        leatlaw15_CountRises.l0 k b able marked l (l.length : Int) i s0 s1 s2 s3 t0 t1 t2 t3 = leatlaw15_CountRises.l0 (k - 2 * (d + 1)) b (able + m + n + o) (marked + m) l (l.length : Int) (l.length : Int) s0 s1 s2 s3 t0 t1 t2 t3) := by
      intro m1 n1 o1 p' q' r' s' hle htk e0 e1 e2 e3 hmark hable
      have hmul : ∀ x : Nat, x ≤ 1 → 0 ≤ (x : Int) * b ∧ (x : Int) * b ≤ 65535 := fun x hx => by
        rcases (show x = 0 ∨ x = 1 by omega) with rfl | rfl
        · simp
        · simp; exact hb
      have hm1 := hmul m1 (by omega)
      have hn1 := hmul n1 (by omega)
      have ho1 := hmul o1 (by omega)
      obtain ⟨m, n, o, hmno, g1, g2⟩ := ih (i + 1) p' q' r' s' (by omega) (by omega) (by omega) (by omega) (by omega) (by omega) (by omega) (by omega)
      refine ⟨m1 + m, n1 + n, o1 + o, by omega, fun k hk => ?_, fun k able marked s0 s1 s2 s3 t0 t1 t2 t3 ha0 ha1 hk0 hk1 hk => ?_⟩
      · obtain ⟨k, rfl⟩ : ∃ z, k = z + 1 := ⟨k - 1, by omega⟩
        rw [count_All.l0, if_pos (by omega), if_pos h0, if_pos (by omega), htk]
        simp only [Option.bind_some]
        rw [CountRises.w64 (by omega) (by omega), g1 k (by omega), e0, e1, e2, e3]
        have ea : ∀ (x y : Nat) (z : Int), z + (x : Int) * b + (y : Int) * b = z + ((x + y : Nat) : Int) * b := fun x y z => by
          rw [Int.natCast_add, Int.add_mul, Int.add_assoc]
        rw [ea, ea, ea]
        congr 2
        omega
      · obtain ⟨k, rfl⟩ : ∃ z, k = z + 2 := ⟨k - 2, by omega⟩
        rw [leatlaw15_CountRises.l0, if_pos (by omega), if_pos h0, if_pos (by omega)]
        have fin : ∀ (A M : Int), A = able + (m1 + n1 + o1 : Nat) → M = marked + m1 → leatlaw15_CountRises.l0 k b A M l (l.length : Int) (wrap64 (i + 1)) s0 s1 s2 s3 t0 t1 t2 t3 = leatlaw15_CountRises.l0 (k + 2 - 2 * (d + 1)) b (able + (m1 + m : Nat) + (n1 + n : Nat) + (o1 + o : Nat)) (marked + (m1 + m : Nat)) l (l.length : Int) (l.length : Int) s0 s1 s2 s3 t0 t1 t2 t3 := by
          intro A M hA hM
          rw [CountRises.w64 (by omega) (by omega), g2 k A M s0 s1 s2 s3 t0 t1 t2 t3 (by omega) (by omega) (by omega) (by omega) (by omega)]
          have e4 : k - 2 * d = k + 2 - 2 * (d + 1) := by omega
          have e5 : A + m + n + o = able + (m1 + m : Nat) + (n1 + n : Nat) + (o1 + o : Nat) := by omega
          have e6 : M + m = marked + (m1 + m : Nat) := by omega
          rw [e4, e5, e6]
        by_cases c1 : rd l i ≥ 1
        · rw [if_pos c1]
          by_cases c3 : rd l i ≤ 3
          · have hs1 : m1 + n1 + o1 = 1 := hable.mpr ⟨c1, c3⟩
            rw [decide_eq_true c3, leatlaw15_CountRises.j1, if_pos rfl]
            by_cases c : rd l i = 3
            · have := hmark.mpr c
              rw [if_pos c]
              exact fin _ _ (by rw [CountRises.w64 (by omega) (by omega)]; omega) (by rw [CountRises.w64 (by omega) (by omega)]; omega)
            · have : m1 = 0 := by by_cases h : m1 = 1
                                  · exact absurd (hmark.mp h) c
                                  · omega
              rw [if_neg c]
              exact fin _ _ (by rw [CountRises.w64 (by omega) (by omega)]; omega) (by omega)
          · have hs1 : ¬ m1 + n1 + o1 = 1 := fun h => c3 (hable.mp h).2
            rw [decide_eq_false c3, leatlaw15_CountRises.j1, if_neg (by decide), if_neg (by omega)]
            exact fin _ _ (by omega) (by omega)
        · have hs1 : ¬ m1 + n1 + o1 = 1 := fun h => c1 (hable.mp h).1
          rw [if_neg c1, leatlaw15_CountRises.j1, if_neg (by decide), if_neg (by omega)]
          exact fin _ _ (by omega) (by omega)
    by_cases e3 : rd l i = 3
    · rw [if_pos e3] at ht
      exact key 1 0 0 _ _ _ _ (by omega) ht (by simp) (by simp) (by simp) (by simp) (by omega) (by omega)
    rw [if_neg e3] at ht
    by_cases e2 : rd l i = 2
    · rw [if_pos e2] at ht
      exact key 0 1 0 _ _ _ _ (by omega) ht (by simp) (by simp) (by simp) (by simp) (by omega) (by omega)
    rw [if_neg e2] at ht
    by_cases e1 : rd l i = 1
    · rw [if_pos e1] at ht
      exact key 0 0 1 _ _ _ _ (by omega) ht (by simp) (by simp) (by simp) (by simp) (by omega) (by omega)
    rw [if_neg e1] at ht
    exact key 0 0 0 _ _ _ _ (by omega) ht (by simp) (by simp) (by simp) (by simp) (by omega) (by omega)

theorem CountRises.r32 {a : Int} (h : (Lit.int .i32 a).wf = true) : -2147483648 ≤ a ∧ a ≤ 2147483647 := by
  simp only [Lit.wf, IntKind.min, IntKind.max, IntKind.signed, IntKind.bits, Bool.and_eq_true, decide_eq_true_eq, if_true] at h
  omega

theorem CountRises : leatlaw15_CountRises.Pure := by
  intro c0 c1 c2 c3 l b w0 w1 w2 w3 hl1 hl2 hl wb
  have hb : 0 ≤ b ∧ b ≤ 65535 := by
    simp only [Lit.wf, IntKind.min, IntKind.max, IntKind.signed, IntKind.bits, Bool.and_eq_true] at wb
    simpa using wb
  have h0 := CountRises.r32 w0
  have h1 := CountRises.r32 w1
  have h2 := CountRises.r32 w2
  have h3 := CountRises.r32 w3
  refine ⟨120, ?_⟩
  unfold leatlaw15_CountRises.f
  have hm : 0 ≤ mn (l.length : Int) 50 ∧ mn (l.length : Int) 50 ≤ l.length ∧ mn (l.length : Int) 50 ≤ 50 := by
    unfold mn; split <;> omega
  rw [if_pos hm.1, if_pos hm.2.1]
  simp only [Option.bind_some]
  have ht : (l.take (mn (l.length : Int) 50).toNat).length ≤ 50 := by rw [List.length_take]; omega
  generalize l.take (mn (l.length : Int) 50).toNat = y at *
  rw [CountRises.w64 (x := c0) (by omega) (by omega), CountRises.w64 (x := c1) (by omega) (by omega), CountRises.w64 (x := c2) (by omega) (by omega), CountRises.w64 (x := c3) (by omega) (by omega), CountRises.w64 (x := b) (by omega) (by omega)]
  obtain ⟨m, n, o, hmno, g1, g2⟩ := CountRises.loop_ y ht b hb y.length 0 c0 c1 c2 c3 (by omega) (by omega) (by omega) ht (by omega) (by omega) (by omega) (by omega)
  unfold count_All.f
  rw [g1 120 (by omega)]
  simp only [Option.bind_some]
  rw [g2 120 0 0 c0 c1 c2 c3 _ _ _ _ (by omega) (by omega) (by omega) (by omega) (by omega)]
  obtain ⟨z, hz⟩ : ∃ z, 120 - 2 * y.length = z + 1 := ⟨120 - 2 * y.length - 1, by omega⟩
  have hw : leatlaw15_works.f = some true := by kernel_rfl
  have mb : ∀ x : Nat, x ≤ 50 → 0 ≤ (x : Int) * b ∧ (x : Int) * b ≤ 3276750 := fun x hx => by
    refine ⟨Int.mul_nonneg (by omega) hb.1, ?_⟩
    have := Int.mul_le_mul (show (x : Int) ≤ 50 by omega) hb.2 hb.1 (by omega)
    omega
  have hmm := mb m (by omega)
  have hnn := mb n (by omega)
  have hoo := mb o (by omega)
  have hsum : ((0 : Int) + m + n + o) * b = m * b + n * b + o * b := by rw [Int.zero_add, Int.add_mul, Int.add_mul]
  rw [hz, leatlaw15_CountRises.l0, if_neg (by omega), hw, CountRises.w64 (x := b) (by omega) (by omega), hsum]
  rw [if_pos (by rw [CountRises.w64 (by omega) (by omega)]; omega)]
  rw [if_pos (by rw [Int.zero_add, CountRises.w64 (by omega) (by omega), CountRises.w64 (by omega) (by omega)]; omega)]
  rw [if_pos (by omega), if_pos (by omega)]
  rw [if_pos]
  · rfl
  · rw [CountRises.w64 (x := c1 + m * b - c1) (by omega) (by omega), CountRises.w64 (x := c1 + m * b - c1 + (c2 + n * b)) (by omega) (by omega), CountRises.w64 (x := c1 + m * b - c1 + (c2 + n * b) - c2) (by omega) (by omega), CountRises.w64 (x := c1 + m * b - c1 + (c2 + n * b) - c2 + (c3 + o * b)) (by omega) (by omega), CountRises.w64 (by omega) (by omega), CountRises.w64 (by omega) (by omega)]
    omega

end Go.Proofs.Ytdfbnbhhjhfdaaa.Pure
