/- The pure statement of RttSamples: any estimate behind any sample is the reference's, and so are its parts. -/
import Derived.Test.YtdfbnbhhjhfdaaaPRttSamplesx4
namespace Go.Proofs.Ytdfbnbhhjhfdaaa.Pure
open Go.RowKit Go.Proofs.Ytdfbnbhhjhfdaaa.PRttSamples Go.Proofs.YtdfbnbhhjhfdaaaW.PrintWords Go.Proofs.YtdfbnbhhjhfdaaaW.PrintLast Go.Proofs.YtdfbnbhhjhfdaaaW.PrintMore

theorem RttSamples.w64 {x : Int} (h0 : -9223372036854775808 ≤ x) (h1 : x ≤ 9223372036854775807) : wrap64 x = x := by
  unfold wrap64; omega

theorem RttSamples.abs_ (a : Int) (k : Nat) (ha : -9223372036854775808 < a ∧ a ≤ 9223372036854775807) : sat_Abs.f (k + 1) a = some (if a < 0 then -a else a) := by
  unfold sat_Abs.f sat_size.f sat_signed.f
  simp only [sat_signed.j0]
  by_cases c : a < 0
  · rw [if_pos c, if_pos c]
    simp only [Option.bind_some]
    rw [if_neg (by decide), if_neg (by decide), if_neg (by decide)]
    have e : IntKind.u64.wrap (-(IntKind.u64.wrap a)) = -a := by rw [IntKind.wrap_u64, IntKind.wrap_u64]; omega
    rw [e, if_neg (by omega), RttSamples.w64 (by omega) (by omega)]; rfl
  · rw [if_neg c, if_neg c]
    simp only [Option.bind_some]
    rw [if_neg (by decide), if_neg (by decide), if_neg (by decide)]
    have e : IntKind.u64.wrap a = a := by rw [IntKind.wrap_u64]; omega
    rw [e, if_neg (by omega), RttSamples.w64 (by omega) (by omega)]; rfl

theorem RttSamples.within2 (x v : Int) (s : Bool) : ∃ x' v' : Int, rtt_within.f x v s = some (x', v', s) ∧ leatref20_Within.f x v s = some (x', v', s) ∧ 0 ≤ x' ∧ x' ≤ 9007199254741000 ∧ 0 ≤ v' ∧ v' ≤ 9007199254741000 := by
  refine ⟨mn (mx x 0) 9007199254741000, mn (mx v 0) 9007199254741000, ?_, rfl, ?_⟩
  · unfold rtt_within.f rtt_within_1.f sat_Clamp.f
    have h : ∀ y : Int, mx 0 (mn y 9007199254741000) = mn (mx y 0) 9007199254741000 := fun y => by unfold mx mn; (repeat' split) <;> omega
    rw [h, h]; rfl
  · unfold mx mn; (repeat' split) <;> omega

theorem RttSamples.within_ (x v : Int) (s : Bool) (hx : 0 ≤ x ∧ x ≤ 9007199254741000) (hv : 0 ≤ v ∧ v ≤ 9007199254741000) : rtt_within.f x v s = some (x, v, s) := by
  unfold rtt_within.f rtt_within_1.f sat_Clamp.f
  have h : ∀ y : Int, 0 ≤ y → y ≤ 9007199254741000 → mx 0 (mn y 9007199254741000) = y := fun y _ _ => by unfold mx mn; (repeat' split) <;> omega
  rw [h x hx.1 hx.2, h v hv.1 hv.2]; rfl

theorem RttSamples.smooth_ (x v : Int) (s : Bool) (hx : 0 ≤ x ∧ x ≤ 9007199254741000) (hv : 0 ≤ v ∧ v ≤ 9007199254741000) : rtt_Smooth.f x v s = some (x / 8) := by
  unfold rtt_Smooth.f; rw [RttSamples.within_ x v s hx hv]; rfl

theorem RttSamples.vary_ (x v : Int) (s : Bool) (hx : 0 ≤ x ∧ x ≤ 9007199254741000) (hv : 0 ≤ v ∧ v ≤ 9007199254741000) : rtt_Vary.f x v s = some (v / 4) := by
  unfold rtt_Vary.f; rw [RttSamples.within_ x v s hx hv]; rfl

/-- The two samples are one. -/
theorem RttSamples.samp (x v r : Int) (s : Bool) : ∃ y : Int × Int × Bool, (∀ k, rtt_Sample.f (k + 1) x v s r = some y) ∧ leatref20_Sample.f x v s r = some y := by
  obtain ⟨x', v', e1, e2, b1, b2, b3, b4⟩ := RttSamples.within2 x v s
  unfold rtt_Sample.f leatref20_Sample.f sat_Clamp.f
  rw [e1, e2]
  simp only [Option.bind_some]
  have hc : mx 1 (mn r 1125899906842624) = mn (mx r 1) 1125899906842624 := by unfold mx mn; (repeat' split) <;> omega
  have hcr : 1 ≤ mn (mx r 1) 1125899906842624 ∧ mn (mx r 1) 1125899906842624 ≤ 1125899906842624 := by unfold mx mn; (repeat' split) <;> omega
  rw [hc]
  generalize mn (mx r 1) 1125899906842624 = c at *
  have e3 : wrap64 (Int.tdiv x' 8) = x' / 8 := by rw [Int.tdiv_eq_ediv_of_nonneg b1, RttSamples.w64 (by omega) (by omega)]
  have e4 : wrap64 (Int.tdiv v' 4) = v' / 4 := by rw [Int.tdiv_eq_ediv_of_nonneg b3, RttSamples.w64 (by omega) (by omega)]
  rw [e3, e4, RttSamples.smooth_ x' v' s ⟨b1, b2⟩ ⟨b3, b4⟩, RttSamples.vary_ x' v' s ⟨b1, b2⟩ ⟨b3, b4⟩]
  simp only [Option.bind_some]
  rw [RttSamples.w64 (x := c - x' / 8) (by omega) (by omega), RttSamples.w64 (x := x' + (c - x' / 8)) (by omega) (by omega)]
  cases s
  · simp only [Bool.false_eq_true, if_false]
    rw [RttSamples.w64 (x := 8 * c) (by omega) (by omega), RttSamples.w64 (x := 2 * c) (by omega) (by omega)]
    exact ⟨_, fun k => rfl, rfl⟩
  · simp only [if_true]
    refine ⟨(x' + (c - x' / 8), v' + ((if c - x' / 8 < 0 then -(c - x' / 8) else c - x' / 8) - v' / 4), true), fun k => ?_, ?_⟩
    · rw [RttSamples.abs_ (c - x' / 8) k (by omega)]
      simp only [Option.bind_some]
      have hd : 0 ≤ (if c - x' / 8 < 0 then -(c - x' / 8) else c - x' / 8) ∧ (if c - x' / 8 < 0 then -(c - x' / 8) else c - x' / 8) ≤ 1125899906842625 := by split <;> omega
      generalize (if c - x' / 8 < 0 then -(c - x' / 8) else c - x' / 8) = d at *
      rw [RttSamples.w64 (x := d - v' / 4) (by omega) (by omega), RttSamples.w64 (x := v' + (d - v' / 4)) (by omega) (by omega)]
    · by_cases h : c - x' / 8 < 0
      · rw [if_pos h, if_pos h, RttSamples.w64 (x := -(c - x' / 8)) (by omega) (by omega), RttSamples.w64 (x := v' + -(c - x' / 8)) (by omega) (by omega), RttSamples.w64 (by omega) (by omega)]
        congr 3; omega
      · rw [if_neg h, if_neg h, RttSamples.w64 (x := v' + (c - x' / 8)) (by omega) (by omega), RttSamples.w64 (by omega) (by omega)]
        congr 3; omega

theorem RttSamples.loop_ (l : List Int) (hlen : l.length ≤ 30) (d : Nat) : ∀ (i p q : Int) (t : Bool), 0 ≤ i → i ≤ l.length → (l.length : Int) - i = d →
    ∃ R : Int × Int × Bool, (∀ k, d + 2 ≤ k → rtt_All.l0 k l (l.length : Int) i p q t = some R) ∧
      (∀ k s0 s1 s2, d + 2 ≤ k → leatlaw20_RttSamples.l0 k l l (l.length : Int) i s0 s1 s2 p q t = leatlaw20_RttSamples.l0 (k - d) l l (l.length : Int) (l.length : Int) s0 s1 s2 R.1 R.2.1 R.2.2) := by
  induction d with
  | zero =>
    intro i p q t h0 h1 hd
    obtain rfl : i = (l.length : Int) := by omega
    refine ⟨(p, q, t), fun k hk => ?_, fun k s0 s1 s2 hk => rfl⟩
    obtain ⟨k, rfl⟩ : ∃ m, k = m + 1 := ⟨k - 1, by omega⟩
    rw [rtt_All.l0, if_neg (by omega)]
  | succ d ih =>
    intro i p q t h0 h1 hd
    obtain ⟨y, hy1, hy2⟩ := RttSamples.samp p q (rd l i) t
    obtain ⟨R, g1, g2⟩ := ih (i + 1) y.1 y.2.1 y.2.2 (by omega) (by omega) (by omega)
    refine ⟨R, fun k hk => ?_, fun k s0 s1 s2 hk => ?_⟩
    · obtain ⟨k, rfl⟩ : ∃ m, k = m + 2 := ⟨k - 2, by omega⟩
      rw [rtt_All.l0, if_pos (by omega), if_pos h0, if_pos (by omega), hy1]
      simp only [Option.bind_some]
      rw [RttSamples.w64 (by omega) (by omega)]
      exact g1 (k + 1) (by omega)
    · obtain ⟨k, rfl⟩ : ∃ m, k = m + 1 := ⟨k - 1, by omega⟩
      rw [leatlaw20_RttSamples.l0, if_pos (by omega), if_pos h0, if_pos (by omega), hy2]
      simp only [Option.bind_some]
      rw [RttSamples.w64 (by omega) (by omega), g2 k s0 s1 s2 (by omega)]
      congr 1; omega

theorem RttSamples.tail_ (l : List Int) (hlen : l.length ≤ 30) (p q : Int) (t : Bool) : leatlaw20_RttSamples.l0 100 l l (l.length : Int) 0 p q t p q t = some true := by
  obtain ⟨R, g1, g2⟩ := RttSamples.loop_ l hlen l.length 0 p q t (by omega) (by omega) (by omega)
  rw [g2 100 p q t (by omega)]
  obtain ⟨m, hm⟩ : ∃ m, 100 - l.length = m + 34 := ⟨100 - l.length - 34, by omega⟩
  rw [hm, leatlaw20_RttSamples.l0, if_neg (by omega)]
  have hw : leatlaw20_works.f (m + 33) = some true := by kernel_rfl
  unfold rtt_All.f
  rw [g1 (m + 33) (by omega), hw]
  simp

theorem RttSamples : leatlaw20_RttSamples.Pure := by
  intro x v s r l wx wv wr hl1 hl2 hl
  refine ⟨101, ?_⟩
  unfold leatlaw20_RttSamples.f
  have hm : 0 ≤ mn (l.length : Int) 30 ∧ mn (l.length : Int) 30 ≤ l.length ∧ mn (l.length : Int) 30 ≤ 30 := by
    unfold mn; split <;> omega
  rw [if_pos hm.1, if_pos hm.2.1]
  obtain ⟨y, hy1, hy2⟩ := RttSamples.samp x v r s
  obtain ⟨x', v', e1, e2, b1, b2, b3, b4⟩ := RttSamples.within2 x v s
  simp only [Option.bind_some]
  rw [hy1 100, hy2, e2]
  simp only [Option.bind_some]
  unfold rtt_Smooth.f rtt_Vary.f
  rw [e1]
  simp only [Option.bind_some]
  have e3 : wrap64 (Int.tdiv x' 8) = x' / 8 := by rw [Int.tdiv_eq_ediv_of_nonneg b1, RttSamples.w64 (by omega) (by omega)]
  have e4 : wrap64 (Int.tdiv v' 4) = v' / 4 := by rw [Int.tdiv_eq_ediv_of_nonneg b3, RttSamples.w64 (by omega) (by omega)]
  rw [e3, e4, if_neg (by simp), if_pos rfl]
  simp only [leatlaw20_RttSamples.j0]
  rw [if_neg (by simp)]
  have ht : (l.take (mn (l.length : Int) 30).toNat).length ≤ 30 := by rw [List.length_take]; omega
  exact RttSamples.tail_ _ ht x v s

end Go.Proofs.Ytdfbnbhhjhfdaaa.Pure
