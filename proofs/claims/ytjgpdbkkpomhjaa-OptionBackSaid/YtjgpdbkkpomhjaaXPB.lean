/- What is printed is parsed as it was, and what is parsed is printed so: plain laws. Conditions: none. -/
import Derived.Test.YtjgpdbkkpomhjaaXPW
namespace Go.Proofs.YtjgpdbkkpomhjaaX
open Go.RowKit
set_option linter.unusedVariables false
theorem num_be : ∀ (q : Nat) (n : Int), q ≤ 4 → 0 ≤ n → n < 256 ^ q → num (be n q) = n
  | 0, n, _, h0, h1 => by
    have : n = 0 := by simp at h1; omega
    subst this
    rfl
  | q + 1, n, hq, h0, h1 => by
    have e : (256 : Int) ^ (q + 1) = 256 ^ q * 256 := Int.pow_succ _ _
    have hp : (256 : Int) ^ (q + 1) ≤ 4294967296 := by
      have : q = 0 ∨ q = 1 ∨ q = 2 ∨ q = 3 := by omega
      rcases this with rfl | rfl | rfl | rfl <;> decide
    have ih := num_be q (n / 256) (by omega) (by omega) (by omega)
    rw [be, num_snoc, ih]
    omega
theorem pow_le4 {a b : Nat} (h : a ≤ b) (hb : b ≤ 4) : (256 : Int) ^ a ≤ 256 ^ b := by
  have h5 : ∀ b : Fin 5, ∀ a : Fin 5, a.1 ≤ b.1 → (256 : Int) ^ a.1 ≤ 256 ^ b.1 := by decide
  exact h5 ⟨b, by omega⟩ ⟨a, by omega⟩ h
theorem num_lt : ∀ (n : Nat) (l : List Int), l.length = n → (∀ x ∈ l, 0 ≤ x ∧ x ≤ 255) → n ≤ 4 → num l < 256 ^ n := by
  intro n
  induction n with
  | zero =>
    intro l hl _ _
    rw [List.eq_nil_of_length_eq_zero hl]
    decide
  | succ n ih =>
    intro l hl h hn
    rcases List.eq_nil_or_concat l with rfl | ⟨l', c, rfl⟩
    · simp at hl
    · rw [List.concat_eq_append] at hl h ⊢
      have hl' : l'.length = n := by simpa using hl
      have ih' := ih l' hl' (fun x hx => h x (by simp [hx])) (by omega)
      have hc := h c (by simp)
      have hr := num_range l'
      rw [num_snoc]
      have e : (256 : Int) ^ (n + 1) = 256 ^ n * 256 := Int.pow_succ _ _
      omega
theorem numsOf_cons (a r : List Int) (z j : Nat) (h : a.length = z) : numsOf (a ++ r) z (j + 1) = num a :: numsOf r z j := by
  simp only [numsOf, List.range_succ_eq_map, List.map_cons, List.map_map, Nat.zero_mul, List.drop_zero]
  rw [List.take_append_of_le_length (by omega), List.take_of_length_le (by omega)]
  congr 1
  apply List.map_congr_left
  intro k _
  simp only [Function.comp]
  rw [Nat.succ_mul, Nat.add_comm, ← List.drop_drop, ← h, List.drop_left]
theorem numsOf_back {k : Int} : ∀ (ns : List Int), (∀ n ∈ ns, 0 ≤ n ∧ n < 256 ^ (szk k).toNat) → numsOf (numsB k ns) (szk k).toNat ns.length = ns
  | [], _ => rfl
  | n :: l, h => by
    have h4 := szk_nn k
    have e : numsB k (n :: l) = be n (szk k).toNat ++ numsB k l := by simp [numsB]
    rw [e, List.length_cons, numsOf_cons _ _ _ _ (be_len _ _), num_be _ _ (by omega) (h n (by simp)).1 (h n (by simp)).2, numsOf_back l (fun x hx => h x (by simp [hx]))]
theorem fine_parts {o : Opt} (h : fineB o = true) (h0 : szk o.1 ≠ 0) : o.2.2 = ⟨#[]⟩ ∧ lk2 o.1 ≤ (o.2.1.length : Int) ∧ (o.2.1.length : Int) ≤ mk2 o.1 ∧ ∀ n ∈ o.2.1, n < 256 ^ (szk o.1).toNat := by
  unfold fineB at h
  rw [if_neg h0] at h
  simp only [Bool.and_eq_true, decide_eq_true_eq] at h
  exact ⟨h.2.1, h.2.2.1.1, h.2.2.1.2, h.2.2.2⟩
/-- The first option of what was printed. -/
theorem head_back {o : Opt} {r L : List Int} (hL : L = putB o ++ r) (hf : fineB o = true) (hn : ∀ n ∈ o.2.1, 0 ≤ n) (hl : optLen o ≤ 40) : 0 < L.length ∧ L.getD 0 0 = o.1 ∧ oneE L = 0 ∧ oneO L = o ∧ L.drop (oneN L).toNat = r := by
  obtain ⟨hp0, hp1, hp2, hp3, hp4, hp5⟩ := fine_prod hf
  have h2 := optLen_nn o
  have hk : o.1 % 256 = o.1 := by omega
  have hm : optLen o % 256 = optLen o := by omega
  have hL' : L = o.1 :: optLen o :: (numsB o.1 o.2.1 ++ bytesL o.2.2 ++ r) := by rw [hL, putB, hk, hm]; simp
  have g0 : L.getD 0 0 = o.1 := by rw [hL']; rfl
  have g1 : L.getD 1 0 = optLen o := by rw [hL']; rfl
  have hlen : (L.length : Int) = optLen o + r.length := by rw [hL, List.length_append]; have := putB_len o; omega
  have hnb := numsB_len o.1 o.2.1
  have hol : optLen o = 2 + (o.2.1.length : Int) * szk o.1 + (o.2.2.size : Int) := rfl
  have hin : inB L = numsB o.1 o.2.1 ++ bytesL o.2.2 := by
    unfold inB
    rw [g1, hL']
    have e : (optLen o).toNat = ((numsB o.1 o.2.1 ++ bytesL o.2.2).length + 1) + 1 := by rw [List.length_append, bytesL_length]; omega
    rw [e, List.take_succ_cons, List.take_succ_cons, List.take_left]
    rfl
  have hok : okP (L.getD 0 0) ((L.getD 1 0).toNat - 2) = true := by
    rw [g0, g1]
    by_cases h0 : szk o.1 = 0
    · exact okP_free h0
    · obtain ⟨hs, hlo, hhi, _⟩ := fine_parts hf h0
      have hz : 0 < szk o.1 := by have := (szk_nn o.1).1; omega
      have hs0 : o.2.2.size = 0 := by rw [hs]; rfl
      have e : (((optLen o).toNat - 2 : Nat) : Int) = (o.2.1.length : Int) * szk o.1 := by omega
      rw [okP_eq h0, e, Int.mul_emod_left, Int.mul_ediv_cancel _ h0, decide_eq_true ⟨rfl, hlo, hhi⟩]
  have he : oneE L = 0 := oneE_fine (by omega) (by omega) (by omega) hok
  have hN : oneN L = optLen o := by unfold oneN; rw [if_pos he, g1]
  refine ⟨by omega, g0, he, ?_, ?_⟩
  · unfold oneO optS
    rw [if_pos he, g0, hin]
    by_cases h0 : szk o.1 = 0
    · rw [if_pos h0]
      have hnil : o.2.1 = [] := List.eq_nil_of_length_eq_zero (hp5 h0)
      have e : strOf (numsB o.1 o.2.1 ++ bytesL o.2.2) = o.2.2 := by rw [hnil, show numsB o.1 [] = [] from rfl, List.nil_append, strOf_bytesL]
      rw [e, ← hnil]
    · rw [if_neg h0]
      obtain ⟨hs, hlo, hhi, hlt⟩ := fine_parts hf h0
      have hz : 0 < szk o.1 := by have := (szk_nn o.1).1; omega
      have e1 : numsB o.1 o.2.1 ++ bytesL o.2.2 = numsB o.1 o.2.1 := by rw [hs, show bytesL ⟨#[]⟩ = [] from rfl, List.append_nil]
      have e2 : (numsB o.1 o.2.1).length / (szk o.1).toNat = o.2.1.length := by
        have : (numsB o.1 o.2.1).length = o.2.1.length * (szk o.1).toNat := by
          have h_ : (((numsB o.1 o.2.1).length : Nat) : Int) = ((o.2.1.length * (szk o.1).toNat : Nat) : Int) := by
            rw [hnb, Int.natCast_mul, Int.toNat_of_nonneg (by omega)]
          exact_mod_cast h_
        rw [this, Nat.mul_div_cancel _ (by omega)]
      rw [e1, e2, numsOf_back _ (fun n hx => ⟨hn n hx, hlt n hx⟩), ← hs]
  · rw [hN, hL]
    have e : (optLen o).toNat = (putB o).length := by have := putB_len o; omega
    rw [e, List.drop_left]
theorem zeros_back (acc : List Opt) (t : Nat) : parseO acc (List.replicate t 0) = (acc, 0) := by
  cases t with
  | zero => exact parse_nil rfl
  | succ t => exact parse_zero (by simp) (fun x hx => List.eq_of_mem_replicate hx)
theorem body_back (t : Nat) : ∀ (l acc : List Opt), chk acc l = 0 → (∀ o ∈ l, ∀ n ∈ o.2.1, 0 ≤ n) → sumO l ≤ 40 → parseO acc (bodyO l ++ List.replicate t 0) = (acc ++ l, 0)
  | [], acc, _, _, _ => by
    rw [show bodyO [] = [] from rfl, List.nil_append, zeros_back, List.append_nil]
  | o :: l, acc, h, hn, hs => by
    have hf : fineB o = true := chk_all h o (by simp)
    have hsl := sumO_nn l
    have hol := optLen_nn o
    have hs' : optLen o + sumO l ≤ 40 := hs
    unfold chk at h
    rw [if_pos hf] at h
    have hh : hadB acc o.1 = false := by
      cases hb : hadB acc o.1 with
      | false => rfl
      | true => rw [if_pos hb] at h; exact absurd h (by decide)
    rw [if_neg (by rw [hh]; decide)] at h
    have e : bodyO (o :: l) ++ List.replicate t 0 = putB o ++ (bodyO l ++ List.replicate t 0) := by simp [bodyO]
    obtain ⟨h0, h1, h2, h3, h4⟩ := head_back e hf (hn o (by simp)) (by omega)
    have hp := (fine_prod hf).2.2.2.1
    rw [parse_step h0 (by rw [h1]; omega) (by rw [h1]; omega) h2 (by rw [h1]; exact hh), h3, h4, body_back t l (acc ++ [o]) h (fun x hx => hn x (by simp [hx])) (by omega)]
    simp
theorem padZ_len (l : List Int) : (padZ l).length % 4 = 0 ∧ (padZ l).length ≤ l.length + 3 ∧ l.length ≤ (padZ l).length := by
  unfold padZ
  rw [List.length_append, List.length_replicate]
  omega
theorem errO_zero {xs : List Opt} (h : errO xs = 0) : chk [] xs = 0 ∧ sumO xs ≤ 40 := by
  unfold errO at h
  split at h
  · rename_i h1; exact absurd h h1
  · split at h
    · exact absurd h (by decide)
    · rename_i h1 h2
      exact ⟨by simpa using h1, by omega⟩
theorem print_back {xs : List Opt} (h : errO xs = 0) (hn : ∀ o ∈ xs, ∀ n ∈ o.2.1, 0 ≤ n) : optP (printO xs) = (xs, 0) ∧ (printO xs).length % 4 = 0 ∧ (printO xs).length ≤ 40 ∧ ((printO xs).length : Int) ≤ sumO xs + 3 := by
  obtain ⟨h1, h2⟩ := errO_zero h
  have hb := bodyO_len xs
  obtain ⟨hp1, hp2, hp3⟩ := padZ_len (bodyO xs)
  have e : printO xs = padZ (bodyO xs) := if_pos h
  refine ⟨?_, by rw [e]; exact hp1, by rw [e]; omega, by rw [e]; omega⟩
  rw [e, optP_of (by omega)]
  exact body_back _ xs [] h1 hn h2
theorem one_fine {l : List Int} (h : 0 < l.length) (hb : ∀ x ∈ l, 0 ≤ x ∧ x ≤ 255) (h0 : l.getD 0 0 ≠ 0) (h1 : l.getD 0 0 ≠ 1) (he : oneE l = 0) : fineB (oneO l) = true ∧ optLen (oneO l) = oneN l ∧ ∀ n ∈ (oneO l).2.1, 0 ≤ n := by
  obtain ⟨e1, e2, e3, e4, e5⟩ := oneE_ok he
  have hk := hb _ (getD_mem (d := 0) h)
  have hk2 : 2 ≤ l.getD 0 0 ∧ l.getD 0 0 ≤ 255 := by omega
  have hil := inB_len e3
  have ho : oneO l = optS (l.getD 0 0) (inB l) := by unfold oneO; rw [if_pos he]
  have hinb : ∀ x ∈ inB l, 0 ≤ x ∧ x ≤ 255 := fun x hx => hb x (List.mem_of_mem_take (List.mem_of_mem_drop hx))
  by_cases hz : szk (l.getD 0 0) = 0
  · have ho2 : oneO l = (l.getD 0 0, [], strOf (inB l)) := by rw [ho]; unfold optS; rw [if_pos hz]
    rw [ho2]
    refine ⟨?_, ?_, fun n hn => by cases hn⟩
    · rw [fine_free hk2 hz]; rfl
    · show 2 + ((0 : Nat) : Int) * szk (l.getD 0 0) + ((strOf (inB l)).size : Int) = oneN l
      rw [strOf_size, hil, hz, e5]
      omega
  · have hz0 := (szk_nn (l.getD 0 0)).1
    have hz4 := (szk_nn (l.getD 0 0)).2
    rw [okP_eq hz] at e4
    have e4 := of_decide_eq_true e4
    have ho2 : oneO l = (l.getD 0 0, numsOf (inB l) (szk (l.getD 0 0)).toNat ((inB l).length / (szk (l.getD 0 0)).toNat), ⟨#[]⟩) := by rw [ho]; unfold optS; rw [if_neg hz]
    have hq : (((inB l).length / (szk (l.getD 0 0)).toNat : Nat) : Int) = (((l.getD 1 0).toNat - 2 : Nat) : Int) / szk (l.getD 0 0) := by
      rw [hil, Int.natCast_ediv, Int.toNat_of_nonneg hz0]
    rw [ho2]
    refine ⟨?_, ?_, fun n hn => (numsOf_range _ _ _ n hn).1⟩
    · refine fine_yes hk2 hz rfl rfl ?_ ?_
      · rw [numsOf_len, hq]; exact e4.2
      · intro n hn
        obtain ⟨k, _, rfl⟩ := List.mem_map.mp hn
        have hlen : (((inB l).drop (k * (szk (l.getD 0 0)).toNat)).take (szk (l.getD 0 0)).toNat).length ≤ (szk (l.getD 0 0)).toNat := by rw [List.length_take]; omega
        refine Int.lt_of_lt_of_le (num_lt _ _ rfl (fun x hx => hinb x (List.mem_of_mem_drop (List.mem_of_mem_take hx))) (by omega)) ?_
        exact pow_le4 hlen (by omega)
    · show 2 + (((numsOf (inB l) _ _).length : Nat) : Int) * szk (l.getD 0 0) + ((0 : Nat) : Int) = oneN l
      rw [numsOf_len, hq, Int.ediv_mul_cancel (Int.dvd_of_emod_eq_zero e4.1), e5]
      omega
theorem parse_fine : ∀ (n : Nat) (b : List Int) (acc m : List Opt), b.length ≤ n → (∀ x ∈ b, 0 ≤ x ∧ x ≤ 255) → parseO acc b = (m, 0) → ∃ l, m = acc ++ l ∧ chk acc l = 0 ∧ sumO l ≤ b.length ∧ ∀ o ∈ l, ∀ n ∈ o.2.1, 0 ≤ n := by
  intro n
  induction n with
  | zero =>
    intro b acc m hn hb h
    rw [parse_nil (by omega)] at h
    injection h with h _
    exact ⟨[], by simp [h], rfl, by simp [sumO], by simp⟩
  | succ n ih =>
    intro b acc m hn hb h
    by_cases hl : 0 < b.length
    · by_cases h0 : b.getD 0 0 = 0
      · by_cases hz : ∀ x ∈ b, x = 0
        · rw [parse_zero hl hz] at h
          injection h with h _
          exact ⟨[], by simp [h], rfl, by simp only [sumO]; omega, by simp⟩
        · exfalso
          have : ∃ i, i < b.length ∧ b.getD i 0 ≠ 0 := Classical.byContradiction fun hne => hz fun x hx => by
            obtain ⟨i, hi, rfl⟩ := List.getElem_of_mem hx
            refine Classical.byContradiction fun hx0 => hne ⟨i, hi, ?_⟩
            simpa [hi] using hx0
          obtain ⟨i, hi, hx⟩ := this
          rw [parse_bad hl h0 hi hx] at h
          injection h with _ h
          exact absurd h (by decide)
      · by_cases h1 : b.getD 0 0 = 1
        · rw [parse_one hl h1] at h
          obtain ⟨l, e1, e2, e3, e4⟩ := ih (b.drop 1) acc m (by rw [List.length_drop]; omega) (fun x hx => hb x (List.mem_of_mem_drop hx)) h
          exact ⟨l, e1, e2, by rw [List.length_drop] at e3; omega, e4⟩
        · by_cases he : oneE b = 0
          · cases hh : hadB acc (b.getD 0 0) with
            | true =>
              rw [parse_had hl h0 h1 he hh] at h
              injection h with _ h
              exact absurd h (by decide)
            | false =>
              rw [parse_step hl h0 h1 he hh] at h
              obtain ⟨f1, f2, f3⟩ := one_fine hl hb h0 h1 he
              obtain ⟨_, g2, g3, _, g5⟩ := oneE_ok he
              obtain ⟨l, e1, e2, e3, e4⟩ := ih (b.drop (oneN b).toNat) (acc ++ [oneO b]) m (by rw [List.length_drop]; omega) (fun x hx => hb x (List.mem_of_mem_drop hx)) h
              rw [List.length_drop] at e3
              refine ⟨oneO b :: l, by rw [e1]; simp, ?_, ?_, ?_⟩
              · have hk : (oneO b).1 = b.getD 0 0 := by
                  unfold oneO optS
                  (repeat' split) <;> rfl
                rw [chk, if_pos f1, if_neg (by rw [hk, hh]; decide)]
                exact e2
              · show optLen (oneO b) + sumO l ≤ b.length
                omega
              · intro o ho
                rcases List.mem_cons.mp ho with rfl | ho
                · exact f3
                · exact e4 o ho
          · rw [parse_err hl h0 h1 he] at h
            injection h with _ h
            exact absurd h he
    · rw [parse_nil (by omega)] at h
      injection h with h _
      exact ⟨[], by simp [h], rfl, by simp only [sumO]; omega, by simp⟩
theorem parse_back {b : List Int} (hb : ∀ x ∈ b, 0 ≤ x ∧ x ≤ 255) (h : (optP b).2 = 0) : errO (optP b).1 = 0 ∧ optP (printO (optP b).1) = ((optP b).1, 0) ∧ (printO (optP b).1).length ≤ b.length + 3 := by
  by_cases hl : 40 < b.length
  · rw [optP_long hl] at h
    exact absurd h (by decide)
  · rw [optP_of hl] at h ⊢
    obtain ⟨l, e1, e2, e3, e4⟩ := parse_fine b.length b [] (parseO [] b).1 (Nat.le_refl _) hb (Prod.ext rfl h)
    rw [List.nil_append] at e1
    rw [e1]
    have he := errO_ok e2 (by omega)
    obtain ⟨p1, _, _, p4⟩ := print_back he e4
    exact ⟨he, p1, by omega⟩
theorem opt_nums {G : Mem} {A : Option Addr} {xs : List Opt} (h : rowAt optD G A xs) : ∀ o ∈ xs, ∀ n ∈ o.2.1, 0 ≤ n := by
  intro o ho n hn
  obtain ⟨i, hi, rfl⟩ := List.getElem_of_mem ho
  obtain ⟨B, c, _, _, _, _, hr⟩ := At.opt [] h i hi
  have e : xs.getD i opt0 = xs[i] := by simp [List.getD, hi]
  rw [e] at hr
  obtain ⟨j, hj, rfl⟩ := List.getElem_of_mem hn
  obtain ⟨_, _, _, ⟨_, h1, _⟩, _⟩ := hr j hj
  exact h1
theorem row_u8 {G : Mem} {A : Option Addr} {ns : List Int} (h : rowAt (D.int .u8) G A ns) : ∀ x ∈ ns, 0 ≤ x ∧ x ≤ 255 := by
  intro x hx
  obtain ⟨i, hi, rfl⟩ := List.getElem_of_mem hx
  obtain ⟨_, _, _, ⟨_, h1, h2⟩, _⟩ := h i hi
  exact ⟨h1, h2⟩
end Go.Proofs.YtjgpdbkkpomhjaaX
