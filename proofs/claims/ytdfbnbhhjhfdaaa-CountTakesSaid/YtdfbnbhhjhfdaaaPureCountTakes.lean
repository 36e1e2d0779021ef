/- The pure statement of CountTakes: any count behind any packets is the reference's. -/
import Derived.Test.YtdfbnbhhjhfdaaaPCountTakesx3
namespace Go.Proofs.Ytdfbnbhhjhfdaaa.Pure
open Go.RowKit Go.Proofs.Ytdfbnbhhjhfdaaa.PCountTakes Go.Proofs.YtdfbnbhhjhfdaaaW.PrintWords Go.Proofs.YtdfbnbhhjhfdaaaW.PrintLast Go.Proofs.YtdfbnbhhjhfdaaaW.PrintMore Go.Proofs.Ytdfbnbhhjhfdaaa.Inj

theorem CountTakes.wrap_toInt (v : BitVec 64) : IntKind.i64.wrap (v.toNat : Int) = v.toInt := by
  have := v.isLt
  rw [IntKind.wrap_i64, BitVec.toInt_eq_toNat_cond]
  split <;> omega
theorem CountTakes.msb_ofInt {x : Int} (h0 : -9223372036854775808 ≤ x) (h1 : x ≤ 9223372036854775807) : (BitVec.ofInt 64 x).msb = decide (x < 0) := by
  rw [BitVec.msb_eq_toInt, BitVec.toInt_ofInt]
  have : x.bmod (2 ^ 64) = x := by
    rw [Int.bmod_def]; simp only [Nat.reducePow]; split <;> omega
  rw [this]
theorem CountTakes.neg_msb (v : BitVec 64) : IntKind.i64.wrap (v.toNat : Int) < 0 ↔ v.msb = true := by
  rw [CountTakes.wrap_toInt, BitVec.msb_eq_toInt]; simp
theorem CountTakes.bits_range (op : BinOp) (x y : Int) : -9223372036854775808 ≤ Go.bits op .i64 x y ∧ Go.bits op .i64 x y ≤ 9223372036854775807 := by
  unfold Go.bits
  show _ ≤ IntKind.i64.wrap _ ∧ IntKind.i64.wrap _ ≤ _
  rw [IntKind.wrap_i64]; omega
theorem CountTakes.and_neg {x y : Int} (hx : -9223372036854775808 ≤ x ∧ x ≤ 9223372036854775807) (hy : -9223372036854775808 ≤ y ∧ y ≤ 9223372036854775807) :
    Go.bits .and .i64 x y < 0 ↔ x < 0 ∧ y < 0 := by
  show IntKind.i64.wrap ((BitVec.ofInt 64 x &&& BitVec.ofInt 64 y).toNat : Int) < 0 ↔ _
  rw [CountTakes.neg_msb, BitVec.msb_and, CountTakes.msb_ofInt hx.1 hx.2, CountTakes.msb_ofInt hy.1 hy.2]; simp
theorem CountTakes.xor_neg {x y : Int} (hx : -9223372036854775808 ≤ x ∧ x ≤ 9223372036854775807) (hy : -9223372036854775808 ≤ y ∧ y ≤ 9223372036854775807) :
    Go.bits .xor .i64 x y < 0 ↔ ((x < 0 ∧ ¬ y < 0) ∨ (¬ x < 0 ∧ y < 0)) := by
  show IntKind.i64.wrap ((BitVec.ofInt 64 x ^^^ BitVec.ofInt 64 y).toNat : Int) < 0 ↔ _
  rw [CountTakes.neg_msb, BitVec.msb_xor, CountTakes.msb_ofInt hx.1 hx.2, CountTakes.msb_ofInt hy.1 hy.2]
  by_cases h1 : x < 0 <;> by_cases h2 : y < 0 <;> simp [h1, h2] <;> omega

theorem CountTakes.range {a : Int} (h : (Lit.int .i64 a).wf = true) : -9223372036854775808 ≤ a ∧ a ≤ 9223372036854775807 := by
  simp only [Lit.wf, IntKind.min, IntKind.max, IntKind.signed, IntKind.bits, Bool.and_eq_true, decide_eq_true_eq, if_true] at h
  omega
theorem CountTakes.w64 {x : Int} (h0 : -9223372036854775808 ≤ x) (h1 : x ≤ 9223372036854775807) : wrap64 x = x := by
  unfold wrap64; omega
theorem CountTakes.wr (x : Int) : -9223372036854775808 ≤ wrap64 x ∧ wrap64 x ≤ 9223372036854775807 := by
  unfold wrap64; omega

/-- A number kept between the ends. -/
def CountTakes.keep (x : Int) : Int := if x < -9223372036854775808 then -9223372036854775808 else if 9223372036854775807 < x then 9223372036854775807 else x

theorem CountTakes.end_ (b : Bool) : PSat.sat_end.f b = some (if b = true then -9223372036854775808 else 9223372036854775807) := by
  cases b <;> rfl

theorem CountTakes.add_ (a b : Int) (ha : -9223372036854775808 ≤ a ∧ a ≤ 9223372036854775807) (hb : -9223372036854775808 ≤ b ∧ b ≤ 9223372036854775807) :
    PSat.sat_Add.f a b = some (CountTakes.keep (a + b)) := by
  unfold PSat.sat_Add.f
  have h1 := CountTakes.xor_neg ha (CountTakes.wr (a + b))
  have h2 := CountTakes.xor_neg hb (CountTakes.wr (a + b))
  have h3 := CountTakes.and_neg (CountTakes.bits_range .xor a (wrap64 (a + b))) (CountTakes.bits_range .xor b (wrap64 (a + b)))
  rw [h1, h2] at h3
  have hw : wrap64 (a + b) = if a + b < -9223372036854775808 then a + b + 18446744073709551616 else if 9223372036854775807 < a + b then a + b - 18446744073709551616 else a + b := by
    unfold wrap64; (repeat' split) <;> omega
  clear h1 h2
  unfold CountTakes.keep
  by_cases c1 : a + b < -9223372036854775808
  · rw [if_pos c1] at hw ⊢
    rw [if_pos (h3.mpr (by omega)), CountTakes.end_]; simp only [Option.bind_some]; rw [if_pos (by simp; omega)]
  · rw [if_neg c1] at hw ⊢
    by_cases c2 : 9223372036854775807 < a + b
    · rw [if_pos c2] at hw ⊢
      rw [if_pos (h3.mpr (by omega)), CountTakes.end_]; simp only [Option.bind_some]; rw [if_neg (by simp; omega)]
    · rw [if_neg c2] at hw ⊢
      rw [if_neg (fun h => by have := h3.mp h; omega), hw]

theorem CountTakes.radd_ (a b : Int) (k : Nat) (ha : -9223372036854775808 ≤ a ∧ a ≤ 9223372036854775807) (hb : -9223372036854775808 ≤ b ∧ b ≤ 9223372036854775807) :
    leatref01_Add.f (k + 1) a b = some (CountTakes.keep (a + b)) := by
  unfold leatref01_Add.f CountTakes.keep
  simp only [leatref01_Add.j0]
  by_cases c0 : b > 0
  · rw [if_pos c0, CountTakes.w64 (by omega) (by omega)]
    by_cases c1 : a > 9223372036854775807 - b
    · rw [if_pos (by simpa using c1), if_neg (by omega), if_pos (by omega)]
    · rw [if_neg (by simpa using c1), if_neg (by omega), if_neg (by omega), if_neg (by omega), CountTakes.w64 (by omega) (by omega)]
  · rw [if_neg c0, if_neg (by decide)]
    by_cases c1 : b < 0
    · rw [if_pos c1, CountTakes.w64 (x := -9223372036854775808 - b) (by omega) (by omega)]
      by_cases c2 : a < -9223372036854775808 - b
      · rw [if_pos c2, if_pos (by omega)]
      · rw [if_neg c2, if_neg (by omega), if_neg (by omega), CountTakes.w64 (by omega) (by omega)]
    · rw [if_neg c1, if_neg (by omega), if_neg (by omega), CountTakes.w64 (by omega) (by omega)]

theorem CountTakes.keep_range (x : Int) : -9223372036854775808 ≤ CountTakes.keep x ∧ CountTakes.keep x ≤ 9223372036854775807 := by
  unfold CountTakes.keep; (repeat' split) <;> omega

theorem CountTakes.rd_range (l : List Int) (hl : ∀ x ∈ l, (Lit.int .i64 x).wf = true) (i : Int) : -9223372036854775808 ≤ rd l i ∧ rd l i ≤ 9223372036854775807 := by
  unfold rd
  by_cases h : i.toNat < l.length
  · rw [List.getD_eq_getElem?_getD, List.getElem?_eq_getElem h]
    exact CountTakes.range (hl _ (List.getElem_mem h))
  · rw [List.getD_eq_getElem?_getD, List.getElem?_eq_none (by omega)]; simp


/-- The range of 64 bits. -/
def CountTakes.ok (x : Int) : Prop := -9223372036854775808 ≤ x ∧ x ≤ 9223372036854775807

theorem CountTakes.take_ (c0 c1 c2 c3 code b : Int) (h0 : CountTakes.ok c0) (h1 : CountTakes.ok c1) (h2 : CountTakes.ok c2) (h3 : CountTakes.ok c3) :
    ∃ r : Int × Int × Int × Int, count_Take.f c0 c1 c2 c3 code b = some r ∧ (∀ k, leatref15_Take.f (k + 2) c0 c1 c2 c3 code b = some r) ∧ CountTakes.ok r.1 ∧ CountTakes.ok r.2.1 ∧ CountTakes.ok r.2.2.1 ∧ CountTakes.ok r.2.2.2 := by
  unfold count_Take.f leatref15_Take.f
  simp only [leatref15_Take.j0]
  have hc : mx 0 (mn b 65536) = mn (mx b 0) 65536 := by unfold mx mn; (repeat' split) <;> omega
  have hr : 0 ≤ mn (mx b 0) 65536 ∧ mn (mx b 0) 65536 ≤ 65536 := by unfold mx mn; (repeat' split) <;> omega
  rw [hc]
  generalize mn (mx b 0) 65536 = n at *
  have hn : CountTakes.ok n := ⟨by omega, by omega⟩
  have h1' : CountTakes.ok 1 := ⟨by omega, by omega⟩
  have kr := fun x => CountTakes.keep_range x
  by_cases e3 : code = 3
  · subst e3
    rw [if_pos rfl, CountTakes.add_ c0 1 h0 h1', CountTakes.add_ c1 n h1 hn]
    refine ⟨(CountTakes.keep (c0 + 1), CountTakes.keep (c1 + n), c2, c3), rfl, fun k => ?_, kr _, kr _, h2, h3⟩
    rw [if_pos rfl, CountTakes.radd_ c0 1 (k + 1) h0 h1', CountTakes.radd_ c1 n (k + 1) h1 hn]
    rfl
  rw [if_neg e3]
  by_cases e2 : code = 2
  · subst e2
    rw [if_pos rfl, CountTakes.add_ c2 n h2 hn]
    refine ⟨(c0, c1, CountTakes.keep (c2 + n), c3), rfl, fun k => ?_, h0, h1, kr _, h3⟩
    rw [if_neg e3, if_pos rfl, CountTakes.radd_ c2 n k h2 hn]
    rfl
  rw [if_neg e2]
  by_cases e1 : code = 1
  · subst e1
    rw [if_pos rfl, CountTakes.add_ c3 n h3 hn]
    refine ⟨(c0, c1, c2, CountTakes.keep (c3 + n)), rfl, fun k => ?_, h0, h1, h2, kr _⟩
    rw [if_neg e3, if_neg e2, if_pos rfl, CountTakes.radd_ c3 n k h3 hn]
    rfl
  rw [if_neg e1]
  exact ⟨_, rfl, fun k => by rw [if_neg e3, if_neg e2, if_neg e1], h0, h1, h2, h3⟩

theorem CountTakes.loop_ (l : List Int) (b : Int) (hlen : l.length ≤ 50) (d : Nat) : ∀ (i p q r s : Int), 0 ≤ i → i ≤ l.length → (l.length : Int) - i = d → CountTakes.ok p → CountTakes.ok q → CountTakes.ok r → CountTakes.ok s →
    ∃ R : Int × Int × Int × Int, (∀ k, d + 1 ≤ k → count_All.l0 k b l (l.length : Int) i p q r s = some R) ∧
      (∀ k s0 s1 s2 s3, d + 3 ≤ k → leatlaw15_CountTakes.l0 k l b l (l.length : Int) i s0 s1 s2 s3 p q r s = leatlaw15_CountTakes.l0 (k - d) l b l (l.length : Int) (l.length : Int) s0 s1 s2 s3 R.1 R.2.1 R.2.2.1 R.2.2.2) := by
  induction d with
  | zero =>
    intro i p q r s h0 h1 hd hp hq hr hs
    obtain rfl : i = (l.length : Int) := by omega
    refine ⟨(p, q, r, s), fun k hk => ?_, fun k s0 s1 s2 s3 hk => rfl⟩
    obtain ⟨k, rfl⟩ : ∃ m, k = m + 1 := ⟨k - 1, by omega⟩
    rw [count_All.l0, if_neg (by omega)]
  | succ d ih =>
    intro i p q r s h0 h1 hd hp hq hr hs
    obtain ⟨y, hy1, hy2, o0, o1, o2, o3⟩ := CountTakes.take_ p q r s (rd l i) b hp hq hr hs
    obtain ⟨R, g1, g2⟩ := ih (i + 1) y.1 y.2.1 y.2.2.1 y.2.2.2 (by omega) (by omega) (by omega) o0 o1 o2 o3
    refine ⟨R, fun k hk => ?_, fun k s0 s1 s2 s3 hk => ?_⟩
    · obtain ⟨k, rfl⟩ : ∃ m, k = m + 1 := ⟨k - 1, by omega⟩
      rw [count_All.l0, if_pos (by omega), if_pos h0, if_pos (by omega), hy1]
      simp only [Option.bind_some]
      rw [CountTakes.w64 (by omega) (by omega)]
      exact g1 k (by omega)
    · obtain ⟨k, rfl⟩ : ∃ m, k = m + 3 := ⟨k - 3, by omega⟩
      rw [leatlaw15_CountTakes.l0, if_pos (by omega), if_pos h0, if_pos (by omega), hy1, hy2]
      simp only [Option.bind_some]
      rw [if_neg (by simp), CountTakes.w64 (by omega) (by omega), g2 (k + 2) s0 s1 s2 s3 (by omega)]
      congr 1; omega

theorem CountTakes : leatlaw15_CountTakes.Pure := by
  intro c0 c1 c2 c3 l b w0 w1 w2 w3 hl1 hl2 hl wb
  refine ⟨110, ?_⟩
  unfold leatlaw15_CountTakes.f
  have hm : 0 ≤ mn (l.length : Int) 50 ∧ mn (l.length : Int) 50 ≤ l.length ∧ mn (l.length : Int) 50 ≤ 50 := by
    unfold mn; split <;> omega
  rw [if_pos hm.1, if_pos hm.2.1]
  simp only [Option.bind_some]
  have ht : (l.take (mn (l.length : Int) 50).toNat).length ≤ 50 := by rw [List.length_take]; omega
  generalize l.take (mn (l.length : Int) 50).toNat = y at *
  obtain ⟨R, g1, g2⟩ := CountTakes.loop_ y b ht y.length 0 c0 c1 c2 c3 (by omega) (by omega) (by omega) (CountTakes.range w0) (CountTakes.range w1) (CountTakes.range w2) (CountTakes.range w3)
  rw [g2 110 c0 c1 c2 c3 (by omega)]
  obtain ⟨m, hm⟩ : ∃ m, 110 - y.length = m + 60 := ⟨110 - y.length - 60, by omega⟩
  have hw : leatlaw15_works.f = some true := by kernel_rfl
  rw [hm, leatlaw15_CountTakes.l0, if_neg (by omega)]
  unfold count_All.f count_Start.f
  rw [g1 (m + 59) (by omega), hw]
  simp

end Go.Proofs.Ytdfbnbhhjhfdaaa.Pure
