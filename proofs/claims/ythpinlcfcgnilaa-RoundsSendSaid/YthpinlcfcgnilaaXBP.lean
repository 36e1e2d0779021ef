/- Rounds: how long it waits, how much goes: plain laws. Conditions: none. -/
import Derived.Test.YthpinlcfcgnilaaXBB
namespace Go.Proofs.YthpinlcfcgnilaaX
open Go.RowKit
set_option linter.unusedVariables false
theorem sum_cmp {c d : Int} : ∀ {l1 l2 : List Int}, l1.length = l2.length → (∀ j, j < l1.length → l1.getD j 0 ≤ c * l2.getD j 0 + d) → sumI l1 ≤ c * sumI l2 + d * (l1.length : Int)
  | [], [], _, _ => by simp [sumI]
  | [], _ :: _, h, _ => by simp at h
  | _ :: _, [], h, _ => by simp at h
  | x :: l1, y :: l2, h, hj => by
    have h0 := hj 0 (by simp)
    have h1 := sum_cmp (c := c) (d := d) (l1 := l1) (l2 := l2) (by simpa using h) (fun j hlt => by
      have := hj (j + 1) (by simp only [List.length_cons]; omega)
      simpa [List.getD] using this)
    have e0 : (x :: l1).getD 0 0 = x := rfl
    have e1 : (y :: l2).getD 0 0 = y := rfl
    rw [e0, e1] at h0
    have e2 : c * (y + sumI l2) = c * y + c * sumI l2 := Int.mul_add _ _ _
    have e3 : d * ((l1.length : Int) + 1) = d * (l1.length : Int) + d := by rw [Int.mul_add, Int.mul_one]
    simp only [sumI, List.length_cons]
    push_cast
    rw [e2, e3]
    omega
/-- Clean rounds, a round further. -/
def nxC (c : RS) : RS := (c.1, c.2.1, c.2.2.1, nextW (mkd c.2.1 c.2.2.1 c.2.2.2.1) c.1 c.2.2.2.1 c.2.2.2.2 c.2.2.2.1.length, nextH (mkd c.2.1 c.2.2.1 c.2.2.2.1) c.2.2.2.2 c.2.2.2.1.length)
def itC : Nat → RS → RS
  | 0, c => c
  | k + 1, c => nxC (itC k c)
theorem itC_add (c : RS) (a : Nat) : ∀ b, itC b (itC a c) = itC (a + b) c
  | 0 => rfl
  | b + 1 => by show nxC (itC b (itC a c)) = nxC (itC (a + b) c); rw [itC_add c a b]
theorem itR_itC (x : RS) : ∀ k, clR (itR k x) = itC k (clR x)
  | 0 => rfl
  | k + 1 => by
    show _ = nxC (itC k (clR x))
    rw [← itR_itC x k]
    exact (itR_next x k rfl).symm
structure OkC (c : RS) : Prop where
  hm : 1 ≤ c.1 ∧ c.1 ≤ 65536
  hp : 0 ≤ c.2.1 ∧ c.2.1 ≤ 1073741824
  ht : 0 ≤ c.2.2.1
  hW : ∀ y ∈ c.2.2.2.1, 2 * c.1 ≤ y ∧ y ≤ 1073741824
  hH : ∀ y ∈ c.2.2.2.2, 0 ≤ y ∧ y ≤ 1048576
  hn : 1 ≤ c.2.2.2.1.length ∧ c.2.2.2.1.length ≤ 256
  hl : c.2.2.2.2.length = c.2.2.2.1.length
  hq : 2 * c.1 * (c.2.2.2.1.length : Int) ≤ c.2.1
theorem OkC.of (x : RS) : OkC (clR x) := by
  obtain ⟨h1, h2, h3, h4, h5, h6, h7, h8⟩ := clR_ok x
  exact ⟨h1, h2, by show 0 ≤ cS x.2.2.1; unfold cS; omega, h3, h4, ⟨h7, h5⟩, h6, h8⟩
theorem OkC.next {c : RS} (h : OkC c) : OkC (nxC c) := by
  refine ⟨h.hm, h.hp, h.ht, nextW_range h.hm h.hW h.hH rfl h.hl, nextH_range h.hH h.hl, ?_, ?_, ?_⟩
  · show 1 ≤ (nextW _ _ _ _ _).length ∧ (nextW _ _ _ _ _).length ≤ 256
    rw [nextW_len]; exact h.hn
  · show (nextH _ _ _).length = (nextW _ _ _ _ _).length
    rw [nextW_len, nextH_len]
  · show 2 * c.1 * ((nextW _ _ _ _ _).length : Int) ≤ c.2.1
    rw [nextW_len]; exact h.hq
theorem OkC.it {c : RS} (h : OkC c) : ∀ k, OkC (itC k c)
  | 0 => h
  | k + 1 => (OkC.it h k).next
theorem nxC_m (c : RS) : (nxC c).1 = c.1 ∧ (nxC c).2.1 = c.2.1 ∧ (nxC c).2.2.1 = c.2.2.1 ∧ (nxC c).2.2.2.1.length = c.2.2.2.1.length := ⟨rfl, rfl, rfl, nextW_len _ _ _ _ _⟩
theorem itC_m (c : RS) : ∀ k, (itC k c).1 = c.1 ∧ (itC k c).2.1 = c.2.1 ∧ (itC k c).2.2.1 = c.2.2.1 ∧ (itC k c).2.2.2.1.length = c.2.2.2.1.length
  | 0 => ⟨rfl, rfl, rfl, rfl⟩
  | k + 1 => by
    obtain ⟨h1, h2, h3, h4⟩ := itC_m c k
    obtain ⟨g1, g2, g3, g4⟩ := nxC_m (itC k c)
    exact ⟨g1.trans h1, g2.trans h2, g3.trans h3, g4.trans h4⟩
theorem nxC_W {c : RS} {j : Nat} (h : j < c.2.2.2.1.length) : (nxC c).2.2.2.1.getD j 0 = nW (mkd c.2.1 c.2.2.1 c.2.2.2.1) c.1 (c.2.2.2.1.getD j 0) (nH (mkd c.2.1 c.2.2.1 c.2.2.2.1) (c.2.2.2.2.getD j 0)) := nextW_at h
theorem nxC_H {c : RS} {j : Nat} (h : j < c.2.2.2.1.length) : (nxC c).2.2.2.2.getD j 0 = nH (mkd c.2.1 c.2.2.1 c.2.2.2.1) (c.2.2.2.2.getD j 0) := nextH_at h
theorem OkC.w {c : RS} (h : OkC c) {j : Nat} (hj : j < c.2.2.2.1.length) : 2 * c.1 ≤ c.2.2.2.1.getD j 0 ∧ c.2.2.2.1.getD j 0 ≤ 1073741824 := h.hW _ (getD_memI hj)
theorem OkC.h {c : RS} (h : OkC c) {j : Nat} (hj : j < c.2.2.2.1.length) : 0 ≤ c.2.2.2.2.getD j 0 ∧ c.2.2.2.2.getD j 0 ≤ 1048576 := h.hH _ (getD_memI (by rw [h.hl]; exact hj))
def sumC (c : RS) : Int := sumI c.2.2.2.1
def quC (c : RS) : Int := max (sumC c - c.2.1) 0
def bnC (c : RS) : Int := c.2.2.1 + c.1 * (c.2.2.2.1.length : Int)
def mkC (c : RS) : Bool := mkd c.2.1 c.2.2.1 c.2.2.2.1
theorem mkC_true {c : RS} (h : mkC c = true) : quC c > c.2.2.1 := of_decide_eq_true h
theorem mkC_false {c : RS} (h : mkC c = false) : quC c ≤ c.2.2.1 := by
  have := of_decide_eq_false h
  show max (sumI _ - _) 0 ≤ _
  unfold quI at this
  omega
theorem sum_marked {c : RS} (h : OkC c) (hm : mkC c = true) : sumC (nxC c) ≤ sumC c := by
  have := sum_cmp (c := 1) (d := 0) (l1 := (nxC c).2.2.2.1) (l2 := c.2.2.2.1) (nxC_m c).2.2.2 (fun j hj => by
    rw [(nxC_m c).2.2.2] at hj
    rw [nxC_W hj]
    have hm' : mkd c.2.1 c.2.2.1 c.2.2.2.1 = true := hm
    have h1 := h.w hj
    have h2 := h.h hj
    have h3 := nH_range (mk := true) h2
    have h4 := pt_range (u := c.2.2.2.1.getD j 0) (f := nH true (c.2.2.2.2.getD j 0) / 2) (by have := h.hm; omega) (by omega)
    rw [hm']
    simp only [nW, if_true]
    omega)
  unfold sumC
  omega
theorem sum_free {c : RS} (h : OkC c) (hm : mkC c = false) : sumC c ≤ sumC (nxC c) ∧ sumC (nxC c) ≤ sumC c + c.1 * (c.2.2.2.1.length : Int) := by
  have hm' : mkd c.2.1 c.2.2.1 c.2.2.2.1 = false := hm
  have e : ∀ j, j < c.2.2.2.1.length → (nxC c).2.2.2.1.getD j 0 = min (c.2.2.2.1.getD j 0 + c.1) 1073741824 := fun j hj => by
    rw [nxC_W hj, hm']
    simp [nW]
  have h1 := sum_cmp (c := 1) (d := c.1) (l1 := (nxC c).2.2.2.1) (l2 := c.2.2.2.1) (nxC_m c).2.2.2 (fun j hj => by
    rw [(nxC_m c).2.2.2] at hj
    rw [e j hj]
    omega)
  have h2 := sum_cmp (c := 1) (d := 0) (l1 := c.2.2.2.1) (l2 := (nxC c).2.2.2.1) (nxC_m c).2.2.2.symm (fun j hj => by
    rw [e j hj]
    have h1 := h.w hj
    have := h.hm
    omega)
  rw [(nxC_m c).2.2.2] at h1
  unfold sumC
  omega
theorem sum_half {c : RS} (h : OkC c) (hm : mkC c = true) : sumC c ≤ 2 * sumC (nxC c) := by
  have hm' : mkd c.2.1 c.2.2.1 c.2.2.2.1 = true := hm
  have := sum_cmp (c := 2) (d := 0) (l1 := c.2.2.2.1) (l2 := (nxC c).2.2.2.1) (nxC_m c).2.2.2.symm (fun j hj => by
    rw [nxC_W hj, hm']
    have h1 := h.w hj
    have h0 := h.hm
    have h3 := nH_range (mk := true) (h.h hj)
    have h4 : c.2.2.2.1.getD j 0 * (nH true (c.2.2.2.2.getD j 0) / 2) ≤ c.2.2.2.1.getD j 0 * 524288 := Int.mul_le_mul_of_nonneg_left (by omega) (by omega)
    have h5 : pt (c.2.2.2.1.getD j 0) (nH true (c.2.2.2.2.getD j 0) / 2) ≤ c.2.2.2.1.getD j 0 / 2 := by
      unfold pt
      omega
    simp only [nW, if_true]
    omega)
  unfold sumC
  omega
theorem bn_keep {c : RS} (h : OkC c) (hb : quC c ≤ bnC c) : quC (nxC c) ≤ bnC (nxC c) := by
  have hn : 0 ≤ c.1 * (c.2.2.2.1.length : Int) := Int.mul_nonneg (by have := h.hm; omega) (by omega)
  have e : bnC (nxC c) = bnC c := by unfold bnC; rw [(nxC_m c).2.2.2]; rfl
  have ep : (nxC c).2.1 = c.2.1 := rfl
  have ht := h.ht
  rw [e]
  cases hm : mkC c with
  | true =>
    have := sum_marked h hm
    unfold quC at hb ⊢
    rw [ep]
    omega
  | false =>
    have h1 := (sum_free h hm).2
    have h2 := mkC_false hm
    unfold bnC
    unfold quC at h2 ⊢
    rw [ep]
    omega
/-- The greatest window and the least share, while all is marked. -/
def simC : Nat → Int × Int
  | 0 => (1073741824, 0)
  | k + 1 => ((simC k).1 - pt (simC k).1 (tw (simC k).2 1048576 / 2), tw (simC k).2 1048576)
theorem sim_end : (simC 100).1 ≤ 2 := by decide +kernel
theorem pt_mono {w V f g : Int} (h0 : 0 ≤ w) (h1 : w ≤ V) (hg : g ≤ f) (hf : f ≤ 1048576) : w - pt w f ≤ V - pt V g := by
  unfold pt
  have h2 : w * (1048576 - f) ≤ V * (1048576 - g) := Int.mul_le_mul h1 (by omega) (by omega) (by omega)
  have e1 : w * (1048576 - f) = w * 1048576 - w * f := Int.mul_sub _ _ _
  have e2 : V * (1048576 - g) = V * 1048576 - V * g := Int.mul_sub _ _ _
  omega
theorem tw_mono {g h : Int} (hg : g ≤ h) (hh : h ≤ 1048576) : tw g 1048576 ≤ tw h 1048576 := by
  unfold tw
  omega
theorem sim_range : ∀ k, 0 ≤ (simC k).1 ∧ (0 ≤ (simC k).2 ∧ (simC k).2 ≤ 1048576)
  | 0 => by decide
  | k + 1 => by
    obtain ⟨h1, h2⟩ := sim_range k
    have h3 := tw_range h2 (y := 1048576) (by decide)
    refine ⟨?_, h3⟩
    show 0 ≤ (simC k).1 - pt (simC k).1 (tw (simC k).2 1048576 / 2)
    have := pt_mono (w := 0) (V := (simC k).1) (f := tw (simC k).2 1048576 / 2) (g := tw (simC k).2 1048576 / 2) (by decide) h1 (Int.le_refl _) (by omega)
    have e : pt 0 (tw (simC k).2 1048576 / 2) = 0 := by simp [pt]
    omega
theorem sim_step {c : RS} (h : OkC c) (k : Nat) (hm : mkC c = true) (hi : ∀ j, j < c.2.2.2.1.length → c.2.2.2.1.getD j 0 ≤ max (simC k).1 (2 * c.1) ∧ (simC k).2 ≤ c.2.2.2.2.getD j 0) :
    ∀ j, j < (nxC c).2.2.2.1.length → (nxC c).2.2.2.1.getD j 0 ≤ max (simC (k + 1)).1 (2 * c.1) ∧ (simC (k + 1)).2 ≤ (nxC c).2.2.2.2.getD j 0 := by
  intro j hj
  rw [(nxC_m c).2.2.2] at hj
  have hm' : mkd c.2.1 c.2.2.1 c.2.2.2.1 = true := hm
  rw [nxC_W hj, nxC_H hj, hm']
  obtain ⟨h1, h2⟩ := hi j hj
  have h3 := h.w hj
  have h4 := h.h hj
  have h0 := h.hm
  have hs := sim_range k
  have ht := tw_mono h2 h4.2
  have eN : nH true (c.2.2.2.2.getD j 0) = tw (c.2.2.2.2.getD j 0) 1048576 := rfl
  have hr := nH_range (mk := true) h4
  rw [eN] at hr ⊢
  refine ⟨?_, ht⟩
  show max (c.2.2.2.1.getD j 0 - pt (c.2.2.2.1.getD j 0) (tw (c.2.2.2.2.getD j 0) 1048576 / 2)) (2 * c.1) ≤ max ((simC k).1 - pt (simC k).1 (tw (simC k).2 1048576 / 2)) (2 * c.1)
  have hp := pt_range (u := c.2.2.2.1.getD j 0) (f := tw (c.2.2.2.2.getD j 0) 1048576 / 2) (by omega) (by omega)
  rcases Int.lt_or_le (simC k).1 (c.2.2.2.1.getD j 0) with hle | hle
  · omega
  · have := pt_mono (f := tw (c.2.2.2.2.getD j 0) 1048576 / 2) (g := tw (simC k).2 1048576 / 2) (show 0 ≤ c.2.2.2.1.getD j 0 by omega) hle (by omega) (by omega)
    omega
theorem wait_inv {c : RS} (h : OkC c) : ∀ k, quC (itC k c) ≤ bnC c ∨ ∀ j, j < (itC k c).2.2.2.1.length → (itC k c).2.2.2.1.getD j 0 ≤ max (simC k).1 (2 * c.1) ∧ (simC k).2 ≤ (itC k c).2.2.2.2.getD j 0
  | 0 => .inr (fun j hj => by
    have h1 := h.w hj
    have h2 := h.h hj
    show c.2.2.2.1.getD j 0 ≤ max 1073741824 _ ∧ 0 ≤ c.2.2.2.2.getD j 0
    omega)
  | k + 1 => by
    have hk := OkC.it h k
    obtain ⟨e1, e2, e3, e4⟩ := itC_m c k
    have eb : bnC (itC k c) = bnC c := by unfold bnC; rw [e1, e3, e4]
    have eb2 : bnC (nxC (itC k c)) = bnC c := by rw [← eb]; unfold bnC; rw [(nxC_m (itC k c)).2.2.2]; rfl
    rcases wait_inv h k with h1 | h1
    · refine .inl ?_
      have := bn_keep hk (by rw [eb]; exact h1)
      rw [eb2] at this
      exact this
    · by_cases hq : quC (itC k c) ≤ bnC c
      · refine .inl ?_
        have := bn_keep hk (by rw [eb]; exact hq)
        rw [eb2] at this
        exact this
      · refine .inr ?_
        have hn : 0 ≤ c.1 * (c.2.2.2.1.length : Int) := Int.mul_nonneg (by have := h.hm; omega) (by omega)
        have hm : mkC (itC k c) = true := by
          refine decide_eq_true ?_
          have e : quI (itC k c).2.1 (itC k c).2.2.2.1 = quC (itC k c) := rfl
          rw [e, e3]
          unfold bnC at hq
          omega
        have := sim_step hk k hm (fun j hj => by rw [e1]; exact h1 j hj)
        rw [e1] at this
        exact this
theorem wait_all {c : RS} (h : OkC c) : ∀ k, quC (itC (100 + k) c) ≤ bnC c
  | 0 => by
    rcases wait_inv h 100 with h1 | h1
    · exact h1
    · have hk := OkC.it h 100
      obtain ⟨e1, e2, e3, e4⟩ := itC_m c 100
      have hn : 0 ≤ c.1 * (c.2.2.2.1.length : Int) := Int.mul_nonneg (by have := h.hm; omega) (by omega)
      have hs := sum_cmp (c := 0) (d := 2 * c.1) (l1 := (itC 100 c).2.2.2.1) (l2 := (itC 100 c).2.2.2.1) rfl (fun j hj => by
        have h2 := (h1 j hj).1
        have h3 := sim_end
        have h4 := h.hm
        omega)
      have hq := h.hq
      have ht := h.ht
      rw [e4] at hs
      unfold quC sumC bnC
      rw [Nat.add_zero, e2]
      omega
  | k + 1 => by
    have hk := OkC.it h (100 + k)
    obtain ⟨e1, e2, e3, e4⟩ := itC_m c (100 + k)
    have eb : bnC (itC (100 + k) c) = bnC c := by unfold bnC; rw [e1, e3, e4]
    have eb2 : bnC (nxC (itC (100 + k) c)) = bnC c := by rw [← eb]; unfold bnC; rw [(nxC_m (itC (100 + k) c)).2.2.2]; rfl
    have := bn_keep hk (by rw [eb]; exact wait_all h k)
    rw [eb2] at this
    exact this
/-- From the hundredth round on no queue is above the step and a segment of each flow. -/
theorem qR_wait (x : RS) {k : Nat} (hk : 100 ≤ k) : qR (itR k x) ≤ cS x.2.2.1 + cM x.1 * (cN x.2.2.2.1 : Int) := by
  have e : qR (itR k x) = quC (clR (itR k x)) := rfl
  have := wait_all (OkC.of x) (k - 100)
  rw [show 100 + (k - 100) = k by omega, ← itR_itC, ← e] at this
  have eb : bnC (clR x) = cS x.2.2.1 + cM x.1 * (cN x.2.2.2.1 : Int) := by
    unfold bnC
    show cS _ + cM _ * ((cW _ _ _).length : Int) = _
    rw [cW_len]
  rw [eb] at this
  exact this
/-! ### How much goes -/
theorem half_keep {c : RS} (h : OkC c) (hs : c.2.1 ≤ 2 * sumC c) : (nxC c).2.1 ≤ 2 * sumC (nxC c) := by
  have ep : (nxC c).2.1 = c.2.1 := rfl
  have ht := h.ht
  have hp := h.hp
  rw [ep]
  cases hm : mkC c with
  | true =>
    have h1 := sum_half h hm
    have h2 := mkC_true hm
    unfold quC at h2
    omega
  | false =>
    have h1 := (sum_free h hm).1
    omega
theorem grow_inv {c : RS} (h : OkC c) : ∀ k, (itC k c).2.1 ≤ 2 * sumC (itC k c) ∨ ∀ j, j < (itC k c).2.2.2.1.length → min ((k : Int) * c.1) 1073741824 ≤ (itC k c).2.2.2.1.getD j 0
  | 0 => .inr (fun j hj => by
    have h1 := h.w hj
    have h2 := h.hm
    show min (((0 : Nat) : Int) * c.1) 1073741824 ≤ c.2.2.2.1.getD j 0
    rw [show ((0 : Nat) : Int) * c.1 = 0 by simp]
    omega)
  | k + 1 => by
    have hk := OkC.it h k
    obtain ⟨e1, e2, e3, e4⟩ := itC_m c k
    rcases grow_inv h k with h1 | h1
    · exact .inl (half_keep hk h1)
    · by_cases hs : (itC k c).2.1 ≤ 2 * sumC (itC k c)
      · exact .inl (half_keep hk hs)
      · refine .inr (fun j hj => ?_)
        have hj' : j < (itC k c).2.2.2.1.length := by
          have : (nxC (itC k c)).2.2.2.1.length = (itC k c).2.2.2.1.length := (nxC_m _).2.2.2
          rw [← this]; exact hj
        have hf : mkd (itC k c).2.1 (itC k c).2.2.1 (itC k c).2.2.2.1 = false := by
          refine decide_eq_false ?_
          have ht := hk.ht
          have hp := hk.hp
          have e : quI (itC k c).2.1 (itC k c).2.2.2.1 = max (sumC (itC k c) - (itC k c).2.1) 0 := rfl
          rw [e]
          omega
        show _ ≤ (nxC (itC k c)).2.2.2.1.getD j 0
        rw [nxC_W hj', hf]
        have h2 := h1 j hj'
        have h3 := h.hm
        have e5 : ((k + 1 : Nat) : Int) * c.1 = (k : Int) * c.1 + c.1 := by push_cast; rw [Int.add_mul, Int.one_mul]
        rw [e5]
        simp only [nW, e1]
        simp only [Bool.false_eq_true, if_false]
        omega
theorem half_at {c : RS} (h : OkC c) {r : Nat} (hr : c.2.1 ≤ (r : Int) * (c.1 * (c.2.2.2.1.length : Int))) : ∀ k, (itC (r + k) c).2.1 ≤ 2 * sumC (itC (r + k) c)
  | 0 => by
    rw [Nat.add_zero]
    rcases grow_inv h r with h1 | h1
    · exact h1
    · have hk := OkC.it h r
      obtain ⟨e1, e2, e3, e4⟩ := itC_m c r
      have hs := sum_cmp (c := 0) (d := -(min ((r : Int) * c.1) 1073741824)) (l1 := (itC r c).2.2.2.1.map (fun x => -x)) (l2 := (itC r c).2.2.2.1) (by simp) (fun j hj => by
        rw [List.length_map] at hj
        have h2 := h1 j hj
        have e : ((itC r c).2.2.2.1.map (fun x => -x)).getD j 0 = -((itC r c).2.2.2.1.getD j 0) := by simp [List.getD, hj]
        rw [e]
        omega)
      have en : ∀ l : List Int, sumI (l.map (fun x => -x)) = -sumI l := by
        intro l
        induction l with
        | nil => rfl
        | cons x l ih => simp only [List.map_cons, sumI, ih]; omega
      rw [en, List.length_map, e4, Int.zero_mul, Int.zero_add, Int.neg_mul] at hs
      have hn := h.hn
      have hp := h.hp
      rw [e2]
      unfold sumC
      have hm := h.hm
      rcases Int.le_total ((r : Int) * c.1) 1073741824 with hle | hle
      · rw [Int.min_eq_left hle, Int.mul_assoc] at hs
        omega
      · rw [Int.min_eq_right hle] at hs
        omega
  | k + 1 => half_keep (OkC.it h (r + k)) (half_at h hr k)
theorem ram_le {p mn : Int} (h : 1 ≤ mn) : p ≤ ramI p mn * mn := by
  unfold ramI
  have h1 := Int.emod_add_mul_ediv (p + mn - 1) mn
  have h2 := Int.emod_lt_of_pos (p + mn - 1) (show 0 < mn by omega)
  rw [Int.mul_comm]
  omega
theorem ram_ge {p mn : Int} (h : 1 ≤ mn) (hp : 1 ≤ p) : 1 ≤ ramI p mn := by
  unfold ramI
  have : mn / mn ≤ (p + mn - 1) / mn := Int.ediv_le_ediv (by omega) (by omega)
  rw [Int.ediv_self (by omega)] at this
  exact this
/-- Behind a ramp of rounds, wherever it began, at least half of what can go goes. -/
theorem sR_half (x : RS) {a k : Nat} {r : Nat} (hr : (r : Int) = ramI (cP x.1 x.2.1 (cN x.2.2.2.1)) (cM x.1 * (cN x.2.2.2.1 : Int))) (hk : a + r ≤ k) : cP x.1 x.2.1 (cN x.2.2.2.1) ≤ 2 * sR (itR k x) := by
  have hc := OkC.of x
  have hn := cN_range x.2.2.2.1
  have hmn := mn_range x.1 hn.1 hn.2
  have ha := OkC.it hc a
  obtain ⟨e1, e2, e3, e4⟩ := itC_m (clR x) a
  have el : (clR x).2.2.2.1.length = cN x.2.2.2.1 := cW_len _ _ _
  have h1 := half_at ha (r := r) (by rw [e1, e2, e4, el, hr]; exact ram_le hmn.1) (k - (a + r))
  rw [itC_add, show a + (r + (k - (a + r))) = k by omega, ← itR_itC] at h1
  have e : sR (itR k x) = min (sumC (clR (itR k x))) (clR (itR k x)).2.1 := rfl
  have e5 : (clR (itR k x)).2.1 = cP x.1 x.2.1 (cN x.2.2.2.1) := by rw [itR_itC]; exact (itC_m (clR x) k).2.1
  have hp := cP_range x.1 x.2.1 hn.2
  rw [e, e5]
  rw [e5] at h1
  omega
/-- What went at least, up to a round. -/
def lowS (p a i : Int) : Int := p * max 0 (i - a)
theorem lowS_step {p a i q s : Int} (hp : 0 ≤ p) (h : lowS p a i ≤ 2 * q) (hs : 0 ≤ s) (h2 : a ≤ i → p ≤ 2 * s) : lowS p a (i + 1) ≤ 2 * (q + s) := by
  unfold lowS at h ⊢
  rcases Int.lt_or_le i a with hlt | hle
  · rw [show max 0 (i - a) = 0 by omega] at h
    rw [show max 0 (i + 1 - a) = 0 by omega]
    omega
  · rw [show max 0 (i - a) = i - a by omega] at h
    rw [show max 0 (i + 1 - a) = (i - a) + 1 by omega, Int.mul_add, Int.mul_one]
    have := h2 hle
    omega
end Go.Proofs.YthpinlcfcgnilaaX
