/- The pure statement of RenoRound: a window that does not grow fast grows by at most a segment in a round. -/
import Derived.Test.YthoeidcpemfmlaaPRenoRoundx2
import Derived.Lib.Mul64
import Derived.Laws.Bits64
namespace Go.Proofs.Ythoeidcpemfmlaa.Pure
open Go.RowKit Go.Proofs.Ythoeidcpemfmlaa.PRenoRound Go.Proofs.YthoeidcpemfmlaaW.PrintWords Go.Proofs.YthoeidcpemfmlaaW.PrintLast Go.Proofs.YthoeidcpemfmlaaW.PrintMore Go.Proofs.Ythoeidcpemfmlaa.Inj
open Go.Lib

theorem RenoRound.w64 {x : Int} (h0 : -9223372036854775808 ≤ x) (h1 : x ≤ 9223372036854775807) : wrap64 x = x := by
  unfold wrap64; omega
/-- What is known of a quotient and a rest. -/
theorem RenoRound.parts (a b : Int) (hb : b ≠ 0) : a = a.tdiv b * b + a.tmod b ∧ (0 ≤ a → 0 ≤ a.tmod b) ∧ (a ≤ 0 → a.tmod b ≤ 0) ∧ (a.tmod b).natAbs < b.natAbs ∧ (a.tdiv b).natAbs ≤ a.natAbs := by
  refine ⟨by have := Int.mul_tdiv_add_tmod a b; rw [Int.mul_comm]; omega, fun h => Int.tmod_nonneg b h, fun h => ?_, ?_, ?_⟩
  · have h2 := Int.tmod_nonneg b (show 0 ≤ -a by omega)
    rw [Int.neg_tmod] at h2; omega
  · rw [Int.natAbs_tmod]; exact Nat.mod_lt _ (by omega)
  · rw [Int.natAbs_tdiv]; exact Nat.div_le_self _ _

/-- Quotient and rest of a divisor above 0. -/
theorem RenoRound.div_ (a b : Int) (k : Nat) (ha : -9223372036854775808 ≤ a ∧ a ≤ 9223372036854775807) (hb : 0 < b ∧ b ≤ 9223372036854775807) :
    ∃ q r, sat_Div.f (k + 1) a b = some q ∧ sat_Mod.f a b = some r ∧ 0 ≤ r ∧ r < b ∧ q * b + r = a := by
  obtain ⟨e, p1, p2, p3, p4⟩ := RenoRound.parts a b (by omega)
  unfold sat_Div.f sat_Mod.f
  have l : (if a = -9223372036854775808 then sat_Div.j0 (k + 1) a b (b == -1) else sat_Div.j0 (k + 1) a b false) = sat_Div.j0 (k + 1) a b false := by
    rw [show (b == -1) = false by simp; omega]; split <;> rfl
  rw [if_neg (by omega), l]
  simp only [sat_Div.j0]
  rw [if_neg (by decide), if_neg (by omega), if_neg (show ¬ b ≤ 0 by omega), if_neg (show ¬ b = 0 by omega)]
  have hs : a < 0 → a.tdiv b ≤ 0 := fun h => by
    have h2 := Int.tdiv_nonneg (show 0 ≤ -a by omega) (show 0 ≤ b by omega)
    rw [Int.neg_tdiv] at h2; omega
  have w1 : wrap64 (a.tdiv b) = a.tdiv b := RenoRound.w64 (by omega) (by omega)
  have hd : decide (b < 0) = false := by simp; omega
  rw [w1, hd]
  by_cases h2 : a.tmod b = 0
  · rw [if_pos h2, if_neg (show ¬ a.tmod b < 0 by omega)]
    exact ⟨_, _, rfl, rfl, by omega, by omega, by omega⟩
  · rw [if_neg h2]
    by_cases h3 : a < 0
    · rw [if_pos (by simpa using h3), if_pos (by omega)]
      have hlow : -9223372036854775808 < a.tdiv b := by
        have h4 : (a.tdiv b).natAbs * b.natAbs ≤ a.natAbs := by
          rw [Int.natAbs_tdiv]; exact Nat.div_mul_le_self _ _
        by_cases h5 : b = 1
        · subst h5; have := Int.tmod_one a; omega
        · have h6 := Nat.mul_le_mul_left (a.tdiv b).natAbs (show 2 ≤ b.natAbs by omega)
          omega
      refine ⟨_, _, rfl, rfl, ?_, ?_, ?_⟩
      · rw [RenoRound.w64 (by omega) (by omega)]; omega
      · rw [RenoRound.w64 (by omega) (by omega)]; omega
      · rw [RenoRound.w64 (by omega) (by omega), RenoRound.w64 (by omega) (by omega), Int.sub_mul]; omega
    · rw [if_neg (by simpa using h3), if_neg (by omega)]
      exact ⟨_, _, rfl, rfl, by omega, by omega, by omega⟩


/-- A quotient, downwards. -/
theorem RenoRound.divp_ (a b : Int) (k : Nat) (ha : -9223372036854775808 ≤ a ∧ a ≤ 9223372036854775807) (hb : 0 < b ∧ b ≤ 9223372036854775807) : sat_Div.f (k + 1) a b = some (a / b) := by
  obtain ⟨q, r, e1, _, h0, h1, h2⟩ := RenoRound.div_ a b k ha hb
  have : a / b = q := by
    rw [← h2, Int.mul_comm q b, Int.add_comm, Int.add_mul_ediv_left _ _ (by omega), Int.ediv_eq_zero_of_lt h0 h1, Int.zero_add]
  rw [e1, this]

theorem RenoRound.clampm_ (x lo hi : Int) : sat_Clamp.f x lo hi = some (mx lo (mn x hi)) := rfl


theorem RenoRound.mxmn (lo x hi : Int) (h : lo ≤ hi) : mx lo (mn x hi) = mn (mx x lo) hi := by unfold mx mn; (repeat' split) <;> omega

/-- A share of a number, as the program tells it. -/
theorem RenoRound.part_ (x f : Int) (k : Nat) (hx : 0 ≤ x ∧ x ≤ 4398046511103) : fixed_Part.f (k + 1) x f = some (x * mn (mx f 0) 1048576 / 1048576) := by
  unfold fixed_Part.f fixed_share.f
  have hs : 0 ≤ mn (mx f 0) 1048576 ∧ mn (mx f 0) 1048576 ≤ 1048576 := by unfold mx mn; (repeat' split) <;> omega
  rw [RenoRound.clampm_, RenoRound.mxmn 0 f _ (by omega)]
  simp only [Option.bind_some]
  rw [RenoRound.divp_ x 1048576 k (by omega) (by omega)]
  have hm : sat_Mod.f x 1048576 = some (x % 1048576) := by
    unfold sat_Mod.f
    rw [if_neg (by omega), if_neg (by omega), Int.tmod_eq_emod_of_nonneg hx.1, if_neg (by omega)]
  rw [hm]
  simp only [Option.bind_some]
  generalize mn (mx f 0) 1048576 = s at *
  have e : x * s = x % 1048576 * s + 1048576 * (x / 1048576 * s) := by
    have h := Int.mul_ediv_add_emod x 1048576
    have h2 : x * s = (1048576 * (x / 1048576) + x % 1048576) * s := by rw [h]
    rw [h2, Int.add_mul, Int.mul_assoc]; omega
  have ha : 0 ≤ x / 1048576 * s ∧ x / 1048576 * s ≤ 4398046511104 := ⟨Int.mul_nonneg (by omega) hs.1, by have := Int.mul_le_mul (show x / 1048576 ≤ 4194304 by omega) hs.2 hs.1 (by omega); omega⟩
  have hb : 0 ≤ x % 1048576 * s ∧ x % 1048576 * s ≤ 1099511627776 := ⟨Int.mul_nonneg (by omega) hs.1, by have := Int.mul_le_mul (show x % 1048576 ≤ 1048576 by omega) hs.2 hs.1 (by omega); omega⟩
  rw [e, Int.add_mul_ediv_left _ _ (by omega), RenoRound.w64 (x := x % 1048576 * s) (by omega) (by omega), Int.tdiv_eq_ediv_of_nonneg hb.1, RenoRound.w64 (x := x % 1048576 * s / 1048576) (by omega) (by omega), RenoRound.w64 (x := x / 1048576 * s) (by omega) (by omega), RenoRound.w64 (by omega) (by omega)]
  congr 1; omega


theorem RenoRound.win_ (C y S : Int) (hS : 1 ≤ S ∧ S ≤ 65536) (hC : S ≤ C ∧ C ≤ 1073741824) (hy : 0 ≤ y ∧ y ≤ 1125899906842623) : reno_Within.f C 0 y S = some (C, 0, y) := by
  unfold reno_Within.f
  have e1 : mx (mx 1 (mn S 65536)) (mn C 1073741824) = C := by unfold mx mn; (repeat' split) <;> omega
  have e2 : mx 0 (mn (0 : Int) 1073741824) = 0 := by unfold mx mn; (repeat' split) <;> omega
  have e3 : mx 0 (mn y 1125899906842623) = y := by unfold mx mn; (repeat' split) <;> omega
  rw [e1, e2, e3]

/-- What a window that does not grow fast grows by. -/
theorem RenoRound.grow_ (C y a S : Int) (k : Nat) (hS : 1 ≤ S ∧ S ≤ 65536) (hC : S ≤ C ∧ C ≤ 536870912) (hy : 0 ≤ y ∧ y ≤ 2199023255552) (ha : 0 ≤ a ∧ a ≤ 16777216) (hq : (y + a * S) / C ≤ 65536) :
    reno_Grow.f (k + 1) C 0 y a S 1048576 = some (C + (y + a * S) / C, 0, (y + a * S) % C) := by
  unfold reno_Grow.f
  have hs : reno_size.f S = some S := by
    unfold reno_size.f
    rw [RenoRound.clampm_, Option.bind_some]
    have : mx 1 (mn S 65536) = S := by unfold mx mn; (repeat' split) <;> omega
    rw [this]
  have hc : sat_Clamp.f a 0 16777216 = some a := by
    rw [RenoRound.clampm_]
    have : mx 0 (mn a 16777216) = a := by unfold mx mn; (repeat' split) <;> omega
    rw [this]
  have hsl : reno_Slow.f C 0 y = some false := by
    unfold reno_Slow.f
    rw [decide_eq_false (by omega)]
  have hp0 : 0 ≤ a * S := Int.mul_nonneg ha.1 (by omega)
  have hp1 : a * S ≤ 16777216 * 65536 := Int.mul_le_mul ha.2 hS.2 (by omega) (by omega)
  have hone : mn (mx (1048576 : Int) 0) 1048576 = 1048576 := by unfold mx mn; (repeat' split) <;> omega
  rw [RenoRound.win_ C y S hS ⟨hC.1, by omega⟩ ⟨hy.1, by omega⟩, Option.bind_some, hs, Option.bind_some, hc, Option.bind_some]
  dsimp only
  rw [hsl, Option.bind_some, if_neg (by decide), RenoRound.w64 (x := a * S) (by omega) (by omega), RenoRound.part_ (a * S) 1048576 k ⟨hp0, by omega⟩, Option.bind_some, hone, Int.mul_ediv_cancel _ (by decide), if_neg (by omega), RenoRound.w64 (x := y + a * S) (by omega) (by omega)]
  have hz : 0 ≤ y + a * S := by omega
  generalize y + a * S = z at *
  have hd : Int.tdiv z C = z / C := Int.tdiv_eq_ediv_of_nonneg hz
  have hq0 : 0 ≤ z / C := Int.ediv_nonneg hz (by omega)
  have hdm := Int.mul_ediv_add_emod z C
  have hm0 := Int.emod_nonneg z (show C ≠ 0 by omega)
  have hm1 := Int.emod_lt_of_pos z (show 0 < C by omega)
  have hcm : z / C * C = z - z % C := by rw [Int.mul_comm]; omega
  have hz1 : z / C * C ≤ 65536 * 536870912 := Int.mul_le_mul hq (by omega) (by omega) (by omega)
  rw [hd, RenoRound.w64 (x := z / C) (by omega) (by omega), hcm, RenoRound.w64 (x := C + z / C) (by omega) (by omega), RenoRound.w64 (x := z - z % C) (by omega) (by omega), show z - (z - z % C) = z % C by omega, RenoRound.w64 (x := z % C) (by omega) (by omega), RenoRound.win_ (C + z / C) (z % C) S hS ⟨by omega, by omega⟩ ⟨hm0, by omega⟩]
  rfl

theorem RenoRound.rd_ (l : List Int) (h : ∀ x ∈ l, (Lit.int .u16 x).wf = true) (i : Int) : 0 ≤ rd l i ∧ rd l i ≤ 65535 := by
  unfold rd
  rw [List.getD_eq_getElem?_getD]
  rcases Nat.lt_or_ge i.toNat l.length with hlt | hge
  · rw [List.getElem?_eq_getElem hlt, Option.getD_some]
    have := h _ (List.getElem_mem hlt)
    simp only [Lit.wf, IntKind.min, IntKind.max, IntKind.signed, IntKind.bits, Bool.and_eq_true] at this
    simpa using this
  · rw [List.getElem?_eq_none hge]; exact ⟨by decide, by decide⟩

theorem RenoRound.fin_ (C0 S C : Int) (k : Nat) (hC0 : 1 ≤ C0 ∧ C0 ≤ 16777216) (hS : 1 ≤ S ∧ S ≤ 65536) (h1 : C0 ≤ C) (h2 : C ≤ C0 + S) :
    (if C ≥ C0 then (if C ≤ (wrap64 ((wrap64 (C0 + S)) + 1)) then ((leatlaw24_works.f (k + 5)).bind fun t139 => (some t139)) else (some false)) else (some false)) = some true := by
  have hw : leatlaw24_works.f (k + 5) = some true := by kernel_rfl
  rw [if_pos (by omega), RenoRound.w64 (x := C0 + S) (by omega) (by omega), RenoRound.w64 (by omega) (by omega), if_pos (by omega), hw]; rfl

theorem RenoRound.loop (l : List Int) (hl : ∀ x ∈ l, (Lit.int .u16 x).wf = true) (C0 S : Int) (hC0 : S ≤ C0 ∧ C0 ≤ 16777216) (hS : 1 ≤ S ∧ S ≤ 65536) :
    ∀ (d i : Nat) (left C y : Int) (k : Nat), i + d = 60 → 0 ≤ left ∧ left ≤ C0 → C0 ≤ C → 0 ≤ y → (C - C0) * C0 + y ≤ (C0 - left) * S →
      leatlaw24_RenoRound.l0 (k + 5 + d + 1) l S C0 left (i : Int) C 0 y = some true := by
  intro d
  induction d with
  | zero =>
    intro i left C y k hi hleft hC hy hinv
    have hA : (C0 - left) * S ≤ C0 * S := Int.mul_le_mul_of_nonneg_right (by omega) (by omega)
    have hCS : C - C0 ≤ S := by
      have h1 : (C - C0) * C0 ≤ S * C0 := by rw [Int.mul_comm S C0]; omega
      exact Int.le_of_mul_le_mul_right h1 (by omega)
    have e : k + 5 + 0 + 1 = (k + 5) + 1 := rfl
    rw [e, leatlaw24_RenoRound.l0]
    have hf := RenoRound.fin_ C0 S C k (by omega) hS hC (by omega)
    by_cases c : (i : Int) < (l.length : Int)
    · rw [if_pos c, if_neg (by omega)]; exact hf
    · rw [if_neg c]; exact hf
  | succ d ih =>
    intro i left C y k hi hleft hC hy hinv
    have hA : (C0 - left) * S ≤ C0 * S := Int.mul_le_mul_of_nonneg_right (by omega) (by omega)
    have hCS : C - C0 ≤ S := by
      have h1 : (C - C0) * C0 ≤ S * C0 := by rw [Int.mul_comm S C0]; omega
      exact Int.le_of_mul_le_mul_right h1 (by omega)
    have e : k + 5 + (d + 1) + 1 = (k + d + 1 + 5) + 1 := by omega
    rw [e, leatlaw24_RenoRound.l0]
    have hf := RenoRound.fin_ C0 S C (k + d + 1) (by omega) hS hC (by omega)
    by_cases c : (i : Int) < (l.length : Int)
    · rw [if_pos c, if_pos (by omega)]
      by_cases g : left > 0
      · rw [if_pos g, if_pos (by omega)]
        have hr := RenoRound.rd_ l hl (i : Int)
        rw [RenoRound.w64 (x := rd l (i : Int)) (by omega) (by omega)]
        have hby : 0 ≤ mn (rd l (i : Int)) left ∧ mn (rd l (i : Int)) left ≤ left := by unfold mn; split <;> omega
        generalize mn (rd l (i : Int)) left = b at *
        have hCC : C0 * S ≤ 16777216 * 65536 := Int.mul_le_mul hC0.2 hS.2 (by omega) (by omega)
        have hcc0 : 0 ≤ (C - C0) * C0 := Int.mul_nonneg (by omega) (by omega)
        have hbS : 0 ≤ b * S := Int.mul_nonneg hby.1 (by omega)
        have hz : (C - C0) * C0 + (y + b * S) ≤ (C0 - (left - b)) * S := by
          have : (C0 - (left - b)) * S = (C0 - left) * S + b * S := by rw [show C0 - (left - b) = (C0 - left) + b by omega, Int.add_mul]
          omega
        have hA2 : (C0 - (left - b)) * S ≤ C0 * S := Int.mul_le_mul_of_nonneg_right (by omega) (by omega)
        have hdm := Int.mul_ediv_add_emod (y + b * S) C
        have hm0 := Int.emod_nonneg (y + b * S) (show C ≠ 0 by omega)
        have hq0 : 0 ≤ (y + b * S) / C := Int.ediv_nonneg (by omega) (by omega)
        have hqC : (y + b * S) / C * C0 ≤ C * ((y + b * S) / C) := by
          rw [Int.mul_comm C]; exact Int.mul_le_mul_of_nonneg_left hC hq0
        have hinv2 : (C + (y + b * S) / C - C0) * C0 + (y + b * S) % C ≤ (C0 - (left - b)) * S := by
          have : (C + (y + b * S) / C - C0) * C0 = (C - C0) * C0 + (y + b * S) / C * C0 := by rw [show C + (y + b * S) / C - C0 = (C - C0) + (y + b * S) / C by omega, Int.add_mul]
          omega
        have hqs : (y + b * S) / C ≤ 65536 := by
          have h1 : (y + b * S) / C * C0 ≤ S * C0 := by rw [Int.mul_comm S C0]; omega
          have := Int.le_of_mul_le_mul_right h1 (by omega)
          omega
        have hg := RenoRound.grow_ C y b S (k + d + 1 + 4) hS ⟨by omega, by omega⟩ ⟨hy, by omega⟩ ⟨hby.1, by omega⟩ hqs
        have e2 : k + d + 1 + 5 = k + d + 1 + 4 + 1 := rfl
        rw [e2, hg, Option.bind_some]
        dsimp only
        have hn := ih (i + 1) (left - b) (C + (y + b * S) / C) ((y + b * S) % C) k (by omega) (by omega) (by omega) hm0 hinv2
        have e3 : k + d + 1 + 4 + 1 = k + 5 + d + 1 := by omega
        have e4 : wrap64 ((i : Int) + 1) = ((i + 1 : Nat) : Int) := by rw [RenoRound.w64 (by omega) (by omega)]; omega
        rw [RenoRound.w64 (x := left - b) (by omega) (by omega), e4, e3]
        exact hn
      · rw [if_neg g]; exact hf
    · rw [if_neg c]; exact hf

theorem RenoRound : leatlaw24_RenoRound.Pure := by
  intro cw m l wc wm _ _ hl
  have hc : 0 ≤ cw ∧ cw ≤ 4294967295 := by
    simp only [Lit.wf, IntKind.min, IntKind.max, IntKind.signed, IntKind.bits, Bool.and_eq_true] at wc
    simpa using wc
  have hm : 0 ≤ m ∧ m ≤ 65535 := by
    simp only [Lit.wf, IntKind.min, IntKind.max, IntKind.signed, IntKind.bits, Bool.and_eq_true] at wm
    simpa using wm
  refine ⟨0 + 5 + 60 + 1, ?_⟩
  unfold leatlaw24_RenoRound.f
  have ht : Int.tmod cw 16777216 = cw % 16777216 := Int.tmod_eq_emod_of_nonneg hc.1
  rw [ht, RenoRound.w64 (x := cw % 16777216) (by omega) (by omega), RenoRound.w64 (x := m) (by omega) (by omega), RenoRound.w64 (x := m + 1) (by omega) (by omega)]
  have hx : 0 ≤ cw % 16777216 ∧ cw % 16777216 < 16777216 := by omega
  generalize cw % 16777216 = x at *
  generalize hS : m + 1 = S at *
  unfold reno_Within.f
  rw [Option.bind_some]
  dsimp only
  have e2 : mx 0 (mn (0 : Int) 1073741824) = 0 := by unfold mx mn; (repeat' split) <;> omega
  have e3 : mx 0 (mn (0 : Int) 1125899906842623) = 0 := by unfold mx mn; (repeat' split) <;> omega
  have h1 : S ≤ mx (mx 1 (mn S 65536)) (mn x 1073741824) ∧ mx (mx 1 (mn S 65536)) (mn x 1073741824) ≤ 16777216 := by unfold mx mn; (repeat' split) <;> omega
  rw [e2, e3]
  generalize mx (mx 1 (mn S 65536)) (mn x 1073741824) = C0 at *
  have h := RenoRound.loop l hl C0 S h1 (by omega) 60 0 C0 C0 0 0 (by omega) (by omega) (by omega) (by omega) (by rw [show C0 - C0 = 0 by omega, Int.zero_mul, Int.zero_mul]; omega)
  exact h

end Go.Proofs.Ythoeidcpemfmlaa.Pure
