/- The pure statement of PathLoses: as many of the first answers are lost as are told so one by one. -/
import Derived.Test.YtenkonnjokebbaaPPathLosesx2
import Derived.Lib.Mul64
import Derived.Laws.Bits64
namespace Go.Proofs.Ytenkonnjokebbaa.Pure
open Go.RowKit Go.Proofs.Ytenkonnjokebbaa.PPathLoses Go.Proofs.YtenkonnjokebbaaW.PrintWords Go.Proofs.YtenkonnjokebbaaW.PrintLast Go.Proofs.YtenkonnjokebbaaW.PrintMore
open Go.Lib

theorem PathLoses.wrap_toInt (v : BitVec 64) : IntKind.i64.wrap (v.toNat : Int) = v.toInt := by
  have := v.isLt
  rw [IntKind.wrap_i64, BitVec.toInt_eq_toNat_cond]
  split <;> omega
theorem PathLoses.msb_ofInt {x : Int} (h0 : -9223372036854775808 ≤ x) (h1 : x ≤ 9223372036854775807) : (BitVec.ofInt 64 x).msb = decide (x < 0) := by
  rw [BitVec.msb_eq_toInt, BitVec.toInt_ofInt]
  have : x.bmod (2 ^ 64) = x := by
    rw [Int.bmod_def]; simp only [Nat.reducePow]; split <;> omega
  rw [this]
theorem PathLoses.neg_msb (v : BitVec 64) : IntKind.i64.wrap (v.toNat : Int) < 0 ↔ v.msb = true := by
  rw [PathLoses.wrap_toInt, BitVec.msb_eq_toInt]; simp
theorem PathLoses.bits_range (op : BinOp) (x y : Int) : -9223372036854775808 ≤ Go.bits op .i64 x y ∧ Go.bits op .i64 x y ≤ 9223372036854775807 := by
  unfold Go.bits
  show _ ≤ IntKind.i64.wrap _ ∧ IntKind.i64.wrap _ ≤ _
  rw [IntKind.wrap_i64]; omega
theorem PathLoses.and_neg {x y : Int} (hx : -9223372036854775808 ≤ x ∧ x ≤ 9223372036854775807) (hy : -9223372036854775808 ≤ y ∧ y ≤ 9223372036854775807) :
    Go.bits .and .i64 x y < 0 ↔ x < 0 ∧ y < 0 := by
  show IntKind.i64.wrap ((BitVec.ofInt 64 x &&& BitVec.ofInt 64 y).toNat : Int) < 0 ↔ _
  rw [PathLoses.neg_msb, BitVec.msb_and, PathLoses.msb_ofInt hx.1 hx.2, PathLoses.msb_ofInt hy.1 hy.2]; simp
theorem PathLoses.xor_neg {x y : Int} (hx : -9223372036854775808 ≤ x ∧ x ≤ 9223372036854775807) (hy : -9223372036854775808 ≤ y ∧ y ≤ 9223372036854775807) :
    Go.bits .xor .i64 x y < 0 ↔ ((x < 0 ∧ ¬ y < 0) ∨ (¬ x < 0 ∧ y < 0)) := by
  show IntKind.i64.wrap ((BitVec.ofInt 64 x ^^^ BitVec.ofInt 64 y).toNat : Int) < 0 ↔ _
  rw [PathLoses.neg_msb, BitVec.msb_xor, PathLoses.msb_ofInt hx.1 hx.2, PathLoses.msb_ofInt hy.1 hy.2]
  by_cases h1 : x < 0 <;> by_cases h2 : y < 0 <;> simp [h1, h2] <;> omega

theorem PathLoses.range {a : Int} (h : (Lit.int .i64 a).wf = true) : -9223372036854775808 ≤ a ∧ a ≤ 9223372036854775807 := by
  simp only [Lit.wf, IntKind.min, IntKind.max, IntKind.signed, IntKind.bits, Bool.and_eq_true, decide_eq_true_eq, if_true] at h
  omega
theorem PathLoses.w64 {x : Int} (h0 : -9223372036854775808 ≤ x) (h1 : x ≤ 9223372036854775807) : wrap64 x = x := by
  unfold wrap64; omega
theorem PathLoses.wr (x : Int) : -9223372036854775808 ≤ wrap64 x ∧ wrap64 x ≤ 9223372036854775807 := by
  unfold wrap64; omega

/-- A number kept between the ends. -/
def PathLoses.keep (x : Int) : Int := if x < -9223372036854775808 then -9223372036854775808 else if 9223372036854775807 < x then 9223372036854775807 else x

theorem PathLoses.end_ (b : Bool) : sat_end.f b = some (if b = true then -9223372036854775808 else 9223372036854775807) := by
  cases b <;> rfl

theorem PathLoses.add_ (a b : Int) (ha : -9223372036854775808 ≤ a ∧ a ≤ 9223372036854775807) (hb : -9223372036854775808 ≤ b ∧ b ≤ 9223372036854775807) :
    sat_Add.f a b = some (PathLoses.keep (a + b)) := by
  unfold sat_Add.f
  have h1 := PathLoses.xor_neg ha (PathLoses.wr (a + b))
  have h2 := PathLoses.xor_neg hb (PathLoses.wr (a + b))
  have h3 := PathLoses.and_neg (PathLoses.bits_range .xor a (wrap64 (a + b))) (PathLoses.bits_range .xor b (wrap64 (a + b)))
  rw [h1, h2] at h3
  have hw : wrap64 (a + b) = if a + b < -9223372036854775808 then a + b + 18446744073709551616 else if 9223372036854775807 < a + b then a + b - 18446744073709551616 else a + b := by
    unfold wrap64; (repeat' split) <;> omega
  clear h1 h2
  unfold PathLoses.keep
  by_cases c1 : a + b < -9223372036854775808
  · rw [if_pos c1] at hw ⊢
    rw [if_pos (h3.mpr (by omega)), PathLoses.end_]; simp only [Option.bind_some]; rw [if_pos (by simp; omega)]
  · rw [if_neg c1] at hw ⊢
    by_cases c2 : 9223372036854775807 < a + b
    · rw [if_pos c2] at hw ⊢
      rw [if_pos (h3.mpr (by omega)), PathLoses.end_]; simp only [Option.bind_some]; rw [if_neg (by simp; omega)]
    · rw [if_neg c2] at hw ⊢
      rw [if_neg (fun h => by have := h3.mp h; omega), hw]

theorem PathLoses.mask32 (z : Int) (h0 : 0 ≤ z) (h1 : z < 18446744073709551616) : Go.bits .and .u64 z 4294967295 = z % 4294967296 := by
  have h := bits_mask .u64 64 (by decide) (fun n h₀ h₁ => by rw [IntKind.wrap_u64]; omega) 32 (by decide) z h0 (by simpa using h1)
  simpa using h
theorem PathLoses.mul64 (X Y : Nat) (hX : X < 18446744073709551616) (hY : Y < 18446744073709551616) :
    bits_Mul64.f (X : Int) (Y : Int) = some (((X * Y / 18446744073709551616 : Nat) : Int), ((X * Y % 18446744073709551616 : Nat) : Int)) := by
  unfold bits_Mul64.f
  obtain ⟨m1, m2, m3, m4⟩ := mul64_hi X Y hX hY
  have b11 := half_mul_le (a := X / 4294967296) (b := Y / 4294967296) (by omega) (by omega)
  have b10 := half_mul_le (a := X / 4294967296) (b := Y % 4294967296) (by omega) (by omega)
  have b01 := half_mul_le (a := X % 4294967296) (b := Y / 4294967296) (by omega) (by omega)
  have b00 := half_mul_le (a := X % 4294967296) (b := Y % 4294967296) (by omega) (by omega)
  rw [PathLoses.mask32 (X : Int) (by omega) (by omega), PathLoses.mask32 (Y : Int) (by omega) (by omega)]
  have e11 : (X : Int) / 4294967296 * ((Y : Int) / 4294967296) = ((X / 4294967296 * (Y / 4294967296) : Nat) : Int) := by simp
  have e10 : (X : Int) / 4294967296 * ((Y : Int) % 4294967296) = ((X / 4294967296 * (Y % 4294967296) : Nat) : Int) := by simp
  have e01 : (X : Int) % 4294967296 * ((Y : Int) / 4294967296) = ((X % 4294967296 * (Y / 4294967296) : Nat) : Int) := by simp
  have e00 : (X : Int) % 4294967296 * ((Y : Int) % 4294967296) = ((X % 4294967296 * (Y % 4294967296) : Nat) : Int) := by simp
  have exy : (X : Int) * (Y : Int) = ((X * Y : Nat) : Int) := by simp
  rw [e11, e10, e01, e00, exy]
  generalize X / 4294967296 * (Y / 4294967296) = p11 at *
  generalize X / 4294967296 * (Y % 4294967296) = p10 at *
  generalize X % 4294967296 * (Y / 4294967296) = p01 at *
  generalize X % 4294967296 * (Y % 4294967296) = p00 at *
  generalize X * Y = p at *
  simp only [IntKind.wrap_u64]
  rw [PathLoses.mask32 _ (by omega) (by omega)]
  congr 2
  omega
theorem PathLoses.size_ (a : Int) (ha : -9223372036854775808 ≤ a ∧ a ≤ 9223372036854775807) : sat_size.f a = some (a.natAbs : Int) := by
  unfold sat_size.f
  split
  · have e : IntKind.u64.wrap (-(IntKind.u64.wrap a)) = (a.natAbs : Int) := by rw [IntKind.wrap_u64, IntKind.wrap_u64]; omega
    rw [e]
  · have e : IntKind.u64.wrap a = (a.natAbs : Int) := by rw [IntKind.wrap_u64]; omega
    rw [e]

/-- A size with a sign, kept at its end. -/
def PathLoses.ans (below : Bool) (T : Nat) : Int :=
  if below = true then (if 9223372036854775808 < T then -9223372036854775808 else -(T : Int)) else (if 9223372036854775808 ≤ T then 9223372036854775807 else (T : Int))

theorem PathLoses.tail_ (T k : Nat) (s : Bool) (hT : T < 340282366920938463463374607431768211456) :
    (if ((T / 18446744073709551616 : Nat) : Int) > 0 then (sat_end.f s).bind fun t => some t else (sat_signed.f (k + 1) ((T % 18446744073709551616 : Nat) : Int) s).bind fun t => some t) = some (PathLoses.ans s T) := by
  unfold PathLoses.ans
  by_cases h : ((T / 18446744073709551616 : Nat) : Int) > 0
  · rw [if_pos h, PathLoses.end_]
    cases s
    · rw [if_neg (by decide), if_neg (by decide), if_pos (by omega)]; rfl
    · rw [if_pos rfl, if_pos rfl, if_pos (by omega)]; rfl
  · rw [if_neg h]
    unfold sat_signed.f
    simp only [sat_signed.j0]
    have e : T % 18446744073709551616 = T := by omega
    rw [e]
    cases s
    · simp only [Bool.false_eq_true, if_false]
      by_cases h1 : 9223372036854775808 ≤ T
      · rw [if_pos (by omega), if_pos h1]; rfl
      · rw [if_neg (by omega), if_neg h1, PathLoses.w64 (by omega) (by omega)]; rfl
    · simp only [if_true]
      by_cases h1 : 9223372036854775808 < T
      · rw [if_pos (by simp; omega), if_pos h1]; rfl
      · rw [if_neg h1]
        by_cases h2 : T = 9223372036854775808
        · subst h2; rfl
        · rw [if_neg (by simp; omega), PathLoses.w64 (x := (T : Int)) (by omega) (by omega), PathLoses.w64 (by omega) (by omega)]; rfl


/-- A product of numbers that are not below 0. -/
theorem PathLoses.mulnn_ (a b : Int) (k : Nat) (ha : 0 ≤ a ∧ a ≤ 9223372036854775807) (hb : 0 ≤ b ∧ b ≤ 9223372036854775807) :
    sat_Mul.f (k + 1) a b = some (if 9223372036854775807 < a * b then 9223372036854775807 else a * b) := by
  unfold sat_Mul.f
  rw [PathLoses.size_ a (by omega), PathLoses.size_ b (by omega)]
  simp only [Option.bind_some]
  rw [PathLoses.mul64 a.natAbs b.natAbs (by omega) (by omega)]
  simp only [Option.bind_some]
  rw [decide_eq_false (show ¬ a < 0 by omega), decide_eq_false (show ¬ b < 0 by omega)]
  have hT : a.natAbs * b.natAbs < 340282366920938463463374607431768211456 := by
    have h1 : a.natAbs * b.natAbs ≤ 9223372036854775808 * 9223372036854775808 := Nat.mul_le_mul (by omega) (by omega)
    omega
  have hab : a * b = ((a.natAbs * b.natAbs : Nat) : Int) := by
    rw [Int.natCast_mul, Int.natAbs_of_nonneg ha.1, Int.natAbs_of_nonneg hb.1]
  have ht := PathLoses.tail_ (a.natAbs * b.natAbs) k false hT
  rw [hab]
  generalize a.natAbs * b.natAbs = T at *
  refine Eq.trans ht ?_
  unfold PathLoses.ans
  rw [if_neg (by decide)]
  by_cases h : 9223372036854775808 ≤ T
  · rw [if_pos h, if_pos (by omega)]
  · rw [if_neg h, if_neg (by omega)]


/-- How many of the first ones are below zero. -/
def PathLoses.cnt (l : List Int) : Nat → Nat
  | 0 => 0
  | i + 1 => PathLoses.cnt l i + (if rd l (i : Int) < 0 then 1 else 0)
theorem PathLoses.cnt_le (l : List Int) (i : Nat) : PathLoses.cnt l i ≤ i := by
  induction i with
  | zero => simp [PathLoses.cnt]
  | succ i ih => simp only [PathLoses.cnt]; split <;> omega
theorem PathLoses.cnt_take (l : List Int) (m i : Nat) (h : i ≤ m) : PathLoses.cnt (l.take m) i = PathLoses.cnt l i := by
  induction i with
  | zero => rfl
  | succ i ih =>
    simp only [PathLoses.cnt]
    rw [ih (by omega)]
    have : rd (l.take m) (i : Int) = rd l (i : Int) := by
      unfold rd
      rw [Int.toNat_natCast, List.getD_eq_getElem?_getD, List.getD_eq_getElem?_getD, List.getElem?_take_of_lt (by omega)]
    rw [this]
/-- What the program counts. -/
theorem PathLoses.lost1_ (l : List Int) (hl : l.length ≤ 60) (k : Nat) : ∀ d i : Nat, i + d = l.length → path_Lost_1.l0 (k + d + 1) (PathLoses.cnt l i : Int) l (l.length : Int) (i : Int) = some (PathLoses.cnt l l.length : Int) := by
  intro d
  induction d with
  | zero =>
    intro i hi
    have : i = l.length := by omega
    rw [path_Lost_1.l0, if_neg (by omega), this]
  | succ d ih =>
    intro i hi
    have e : k + (d + 1) + 1 = (k + d + 1) + 1 := by omega
    rw [e, path_Lost_1.l0, if_pos (by omega), if_pos (by omega), if_pos (by omega)]
    have h2 := ih (i + 1) (by omega)
    have hc := PathLoses.cnt_le l i
    have e1 : wrap64 ((i : Int) + 1) = ((i + 1 : Nat) : Int) := by rw [PathLoses.w64 (by omega) (by omega)]; omega
    rw [e1]
    by_cases c : rd l (i : Int) < 0
    · rw [if_pos c]
      have e2 : wrap64 ((PathLoses.cnt l i : Int) + 1) = (PathLoses.cnt l (i + 1) : Int) := by
        rw [PathLoses.w64 (by omega) (by omega)]; simp only [PathLoses.cnt, if_pos c]; omega
      rw [e2]; exact h2
    · rw [if_neg c]
      have e2 : PathLoses.cnt l (i + 1) = PathLoses.cnt l i := by simp only [PathLoses.cnt, if_neg c]; omega
      rw [e2] at h2; exact h2
theorem PathLoses.lost1 (l : List Int) (hl : l.length ≤ 60) (k : Nat) (hk : 62 ≤ k) : path_Lost_1.f k l = some (PathLoses.cnt l l.length : Int) := by
  have h := PathLoses.lost1_ l hl (k - l.length - 1) l.length 0 (by omega)
  have e : k - l.length - 1 + l.length + 1 = k := by omega
  rw [e] at h
  exact h

/-- How many of the first n answers are lost. -/
def PathLoses.C (l : List Int) (n : Nat) : Nat := n / l.length * PathLoses.cnt l l.length + PathLoses.cnt l (n % l.length)
theorem PathLoses.C_succ (l : List Int) (h : 0 < l.length) (n : Nat) : PathLoses.C l (n + 1) = PathLoses.C l n + (if rd l ((n % l.length : Nat) : Int) < 0 then 1 else 0) := by
  have hm := Nat.mod_lt n h
  have hdm := Nat.div_add_mod n l.length
  unfold PathLoses.C
  have e1 : PathLoses.cnt l (n % l.length + 1) = PathLoses.cnt l (n % l.length) + (if rd l ((n % l.length : Nat) : Int) < 0 then 1 else 0) := rfl
  by_cases c : n % l.length + 1 < l.length
  · have a1 : (n + 1) / l.length = n / l.length := by
      rw [Nat.div_eq_iff h]
      rw [Nat.mul_comm] at hdm
      constructor <;> omega
    have a2 : (n + 1) % l.length = n % l.length + 1 := by
      have hdm2 := Nat.div_add_mod (n + 1) l.length
      rw [a1] at hdm2; omega
    rw [a1, a2, e1]; omega
  · have c2 : n % l.length + 1 = l.length := by omega
    have a1 : (n + 1) / l.length = n / l.length + 1 := by
      rw [Nat.div_eq_iff h, Nat.add_mul]
      rw [Nat.mul_comm] at hdm
      constructor <;> omega
    have a2 : (n + 1) % l.length = 0 := by
      have hdm2 := Nat.div_add_mod (n + 1) l.length
      rw [a1, Nat.mul_add] at hdm2; omega
    rw [c2] at e1
    rw [a1, a2, Nat.add_mul]
    have e0 : PathLoses.cnt l 0 = 0 := rfl
    rw [e0]; omega
theorem PathLoses.C_le (l : List Int) (n : Nat) : PathLoses.C l n ≤ n := by
  unfold PathLoses.C
  have h1 := PathLoses.cnt_le l l.length
  have h2 := PathLoses.cnt_le l (n % l.length)
  have h3 : n / l.length * PathLoses.cnt l l.length ≤ n / l.length * l.length := Nat.mul_le_mul_left _ h1
  have hdm := Nat.div_add_mod n l.length
  rw [Nat.mul_comm] at hdm
  omega

theorem PathLoses.fate_ (l : List Int) (h : 0 < l.length) (n : Nat) : ∃ v, path_Fate.f l (n : Int) = some (v, decide (rd l ((n % l.length : Nat) : Int) < 0)) := by
  unfold path_Fate.f
  have e : mx (n : Int) 0 = (n : Int) := by unfold mx; (repeat' split) <;> omega
  have hm := Nat.mod_lt n h
  rw [e, if_neg (by omega), if_pos (by omega), if_pos (by omega), ← Int.natCast_emod]
  by_cases c : rd l ((n % l.length : Nat) : Int) < 0
  · rw [if_pos c, decide_eq_true c]; exact ⟨_, rfl⟩
  · rw [if_neg c, decide_eq_false c]; exact ⟨_, rfl⟩

theorem PathLoses.lost_ (l : List Int) (hl : l.length ≤ 60) (h : 0 < l.length) (n k : Nat) (hn : n ≤ 255) (hk : 70 ≤ k) : path_Lost.f k l (n : Int) = some (PathLoses.C l n : Int) := by
  obtain ⟨k, rfl⟩ : ∃ j, k = j + 1 := ⟨k - 1, by omega⟩
  unfold path_Lost.f
  rw [if_neg (by omega), path_Lost.j0]
  by_cases c : n = 0
  · rw [if_pos (by simp [c])]
    have : PathLoses.C l n = 0 := by rw [c]; simp [PathLoses.C, PathLoses.cnt]
    rw [this]; rfl
  · obtain ⟨k, rfl⟩ : ∃ j, k = j + 1 := ⟨k - 1, by omega⟩
    have hm := Nat.mod_lt n h
    have hd : n / l.length ≤ n := Nat.div_le_self _ _
    have hc := PathLoses.cnt_le l l.length
    have hC := PathLoses.C_le l n
    rw [if_neg (by simp; omega), if_neg (by omega), PathLoses.lost1 l hl (k + 1) (by omega)]
    rw [Option.bind_some]
    have e1 : Int.tdiv (n : Int) (l.length : Int) = ((n / l.length : Nat) : Int) := by rw [Int.tdiv_eq_ediv_of_nonneg (by omega), Int.natCast_ediv]
    have e2 : Int.tmod (n : Int) (l.length : Int) = ((n % l.length : Nat) : Int) := by rw [Int.tmod_eq_emod_of_nonneg (by omega), Int.natCast_emod]
    have hQ0 : (0 : Int) ≤ ((n / l.length : Nat) : Int) := Int.natCast_nonneg _
    have hQ1 : ((n / l.length : Nat) : Int) ≤ 255 := Int.ofNat_le.mpr (Nat.le_trans hd hn)
    have hc1 : ((PathLoses.cnt l l.length : Nat) : Int) ≤ 60 := Int.ofNat_le.mpr (Nat.le_trans hc hl)
    have hc0 : (0 : Int) ≤ ((PathLoses.cnt l l.length : Nat) : Int) := Int.natCast_nonneg _
    rw [e1, e2, PathLoses.w64 (x := ((n / l.length : Nat) : Int)) (Int.le_trans (by decide) hQ0) (Int.le_trans hQ1 (by decide)), PathLoses.mulnn_ _ _ k ⟨hQ0, Int.le_trans hQ1 (by decide)⟩ ⟨hc0, Int.le_trans hc1 (by decide)⟩]
    rw [Option.bind_some]
    have hlt : (l.take (n % l.length)).length = n % l.length := by rw [List.length_take]; omega
    rw [if_pos (by omega), if_pos (by omega), Int.toNat_natCast, PathLoses.lost1 (l.take (n % l.length)) (by omega) (k + 1) (by omega), hlt, PathLoses.cnt_take l _ _ (Nat.le_refl _)]
    rw [Option.bind_some]
    have hp : n / l.length * PathLoses.cnt l l.length ≤ n / l.length * l.length := Nat.mul_le_mul_left _ hc
    have hq : n / l.length * l.length ≤ n := Nat.div_mul_le_self _ _
    have hz : ((n / l.length : Nat) : Int) * ((PathLoses.cnt l l.length : Nat) : Int) = ((n / l.length * PathLoses.cnt l l.length : Nat) : Int) := by simp
    have hr := PathLoses.cnt_le l (n % l.length)
    rw [hz]
    unfold PathLoses.C at hC ⊢
    generalize n / l.length * PathLoses.cnt l l.length = p at *
    generalize PathLoses.cnt l (n % l.length) = q at *
    rw [if_neg (by omega), PathLoses.add_ _ _ (by omega) (by omega)]
    rw [Option.bind_some]
    unfold PathLoses.keep
    rw [if_neg (by omega), if_neg (by omega)]
    congr 1

theorem PathLoses.loop (l : List Int) (hl : l.length ≤ 60) (n : Nat) (hn : n ≤ 255) (k : Nat) (hk : 80 ≤ k) : ∀ d i : Nat, i + d = n → leatlaw38_PathLoses.l0 (k + d + 1) l (n : Int) (if l.length = 0 then 0 else (PathLoses.C l i : Int)) (i : Int) = some true := by
  have hw : leatlaw38_works.f = some true := by kernel_rfl
  intro d
  induction d with
  | zero =>
    intro i hi
    have hin : i = n := by omega
    subst hin
    rw [leatlaw38_PathLoses.l0, PathLoses.w64 (by omega) (by omega), if_neg (by omega)]
    obtain ⟨k, rfl⟩ : ∃ j, k = j + 1 := ⟨k - 1, by omega⟩
    by_cases h : l.length = 0
    · have hz : ∀ x, path_Lost.f (k + 1) l x = some 0 := by
        intro x
        unfold path_Lost.f
        rw [if_pos (by omega), path_Lost.j0, if_pos rfl]
      have e : k + 1 + 0 = k + 1 := rfl
      rw [e, hz, hz, if_pos h, Option.bind_some, if_pos rfl, Option.bind_some, if_pos rfl, hw, Option.bind_some]
    · have hm1 : path_Lost.f (k + 1) l (-1) = some 0 := by
        unfold path_Lost.f
        rw [if_neg (by omega), path_Lost.j0, if_pos (by decide)]
      have e : k + 1 + 0 = k + 1 := rfl
      rw [e, PathLoses.lost_ l hl (by omega) i (k + 1) hn (by omega), if_neg h, Option.bind_some, if_pos rfl, hm1, Option.bind_some, if_pos rfl, hw, Option.bind_some]
  | succ d ih =>
    intro i hi
    have e : k + (d + 1) + 1 = (k + d + 1) + 1 := by omega
    have h2 := ih (i + 1) (by omega)
    have e1 : wrap64 ((i : Int) + 1) = ((i + 1 : Nat) : Int) := by rw [PathLoses.w64 (by omega) (by omega)]; omega
    rw [e, leatlaw38_PathLoses.l0, PathLoses.w64 (x := (n : Int)) (by omega) (by omega), if_pos (by omega), e1]
    by_cases h : l.length = 0
    · have hf : path_Fate.f l (i : Int) = some (0, false) := by unfold path_Fate.f; rw [if_pos (by omega)]
      rw [hf]
      rw [Option.bind_some]
      rw [if_neg (by decide)]
      rw [if_pos h] at h2 ⊢
      exact h2
    · obtain ⟨v, hf⟩ := PathLoses.fate_ l (by omega) i
      rw [hf]
      rw [Option.bind_some]
      have hs := PathLoses.C_succ l (by omega) i
      have hC := PathLoses.C_le l i
      rw [if_neg h] at h2 ⊢
      by_cases c : rd l ((i % l.length : Nat) : Int) < 0
      · rw [if_pos (by simpa using c), PathLoses.w64 (by omega) (by omega)]
        rw [if_pos c] at hs
        have : (PathLoses.C l i : Int) + 1 = (PathLoses.C l (i + 1) : Int) := by omega
        rw [this]; exact h2
      · rw [if_neg (by simpa using c)]
        rw [if_neg c] at hs
        have : (PathLoses.C l i : Int) = (PathLoses.C l (i + 1) : Int) := by omega
        rw [this]; exact h2

theorem PathLoses : leatlaw38_PathLoses.Pure := by
  intro l a w0 w1 w2 wa
  have ha : 0 ≤ a ∧ a ≤ 255 := by
    simp only [Lit.wf, IntKind.min, IntKind.max, IntKind.signed, IntKind.bits, Bool.and_eq_true] at wa
    simpa using wa
  obtain ⟨n, rfl⟩ : ∃ n : Nat, a = (n : Int) := ⟨a.toNat, by omega⟩
  refine ⟨100 + n + 1, ?_⟩
  unfold leatlaw38_PathLoses.f
  have h1 : 0 ≤ mn (l.length : Int) 60 := by unfold mn; split <;> omega
  have h2 : mn (l.length : Int) 60 ≤ (l.length : Int) := by unfold mn; split <;> omega
  have h3 : mn (l.length : Int) 60 ≤ 60 := by unfold mn; split <;> omega
  rw [if_pos h1, if_pos h2]
  have hl : (l.take (mn (l.length : Int) 60).toNat).length ≤ 60 := by rw [List.length_take]; omega
  generalize l.take (mn (l.length : Int) 60).toNat = m at *
  have h := PathLoses.loop m hl n (by omega) 100 (by omega) n 0 (by omega)
  have e : (if m.length = 0 then (0 : Int) else (PathLoses.C m 0 : Int)) = 0 := by
    split
    · rfl
    · simp [PathLoses.C, PathLoses.cnt]
  rw [e] at h
  exact h

end Go.Proofs.Ytenkonnjokebbaa.Pure
