/- Two neighbouring stretches in order, merged in halves: plain laws. Conditions: none. -/
import Derived.Test.YtjgpdbkkpomhjaaYQ7
namespace Go.Proofs.YtjgpdbkkpomhjaaX
open Go.RowKit
set_option linter.unusedVariables false
theorem Mg.refl (l : List Pk) (a b : Nat) : Mg l l a b := ⟨rfl, rfl, rfl, List.Perm.refl _⟩
theorem btw_mem {l : List Pk} {a b : Nat} {x : Pk} (h : x ∈ btw l a b) : x ∈ l := List.mem_of_mem_take (List.mem_of_mem_drop h)
theorem Mg.mem {l l' : List Pk} {a b : Nat} (h : Mg l l' a b) (hab : a ≤ b) {x : Pk} (hx : x ∈ l') : x ∈ l := by
  rw [parts3 (l := l') hab, h.lo, h.hi] at hx
  rcases List.mem_append.1 hx with hx | hx
  · exact List.mem_of_mem_take hx
  · rcases List.mem_append.1 hx with hx | hx
    · exact btw_mem (h.perm.mem_iff.mp hx)
    · exact List.mem_of_mem_drop hx
theorem btw_hi {l l' : List Pk} {d x y : Nat} (h : l'.drop d = l.drop d) (hx : d ≤ x) : btw l' x y = btw l x y := by
  unfold btw
  rw [List.drop_take, List.drop_take, show x = d + (x - d) by omega, ← List.drop_drop, ← List.drop_drop, h]
theorem btw_lo {l l' : List Pk} {d x y : Nat} (h : l'.take d = l.take d) (hy : y ≤ d) : btw l' x y = btw l x y := by
  unfold btw
  have e : ∀ q : List Pk, q.take y = (q.take d).take y := fun q => by rw [List.take_take, Nat.min_eq_left hy]
  rw [e l', e l, h]
theorem btw_nil {l : List Pk} {a b : Nat} (h : b ≤ a) : btw l a b = [] := by
  unfold btw
  exact List.drop_of_length_le (by rw [List.length_take]; omega)
/-- What lies where behind the exchange. -/
structure Sm (l l1 : List Pk) (a s u e d b : Nat) : Prop where
  len : l1.length = l.length
  lo : l1.take a = l.take a
  hi : l1.drop b = l.drop b
  p1 : btw l1 a s = btw l a s
  p2 : btw l1 s d = btw l u e
  p3 : btw l1 d e = btw l s u
  p4 : btw l1 e b = btw l e b
  mem : ∀ x ∈ l1, x ∈ l
theorem sm_parts {l l1 : List Pk} {a s u e d b : Nat} (hb : b ≤ l.length) (hr : a ≤ s ∧ s ≤ u ∧ u ≤ e ∧ e ≤ b ∧ s + e = d + u) (h1 : l1 = l.take a ++ (btw l a s ++ (btw l u e ++ (btw l s u ++ (btw l e b ++ l.drop b))))) : Sm l l1 a s u e d b := by
  have ha : (l.take a).length = a := by rw [List.length_take]; omega
  have l1' : (btw l a s).length = s - a := btw_len (by omega)
  have l2' : (btw l u e).length = e - u := btw_len (by omega)
  have l3' : (btw l s u).length = u - s := btw_len (by omega)
  have l4' : (btw l e b).length = b - e := btw_len hb
  have l5' : (l.drop b).length = l.length - b := List.length_drop
  refine ⟨?_, ?_, ?_, ?_, ?_, ?_, ?_, ?_⟩
  · rw [h1]; simp only [List.length_append, ha, l1', l2', l3', l4', l5']; omega
  · rw [h1, List.take_left' ha]
  · rw [h1]
    have e1 : l.take a ++ (btw l a s ++ (btw l u e ++ (btw l s u ++ (btw l e b ++ l.drop b)))) = (l.take a ++ (btw l a s ++ (btw l u e ++ (btw l s u ++ btw l e b)))) ++ l.drop b := by simp only [List.append_assoc]
    rw [e1, List.drop_left' (by simp only [List.length_append, ha, l1', l2', l3', l4']; omega)]
  · rw [h1]; exact btw_mid ha (by omega)
  · rw [h1, ← List.append_assoc]
    exact btw_mid (by simp only [List.length_append, ha, l1']; omega) (by omega)
  · rw [h1, ← List.append_assoc, ← List.append_assoc]
    exact btw_mid (by simp only [List.length_append, ha, l1', l2']; omega) (by omega)
  · rw [h1, ← List.append_assoc, ← List.append_assoc, ← List.append_assoc]
    exact btw_mid (by simp only [List.length_append, ha, l1', l2', l3']; omega) (by omega)
  · intro x hx
    rw [h1] at hx
    rcases List.mem_append.1 hx with hx | hx
    · exact List.mem_of_mem_take hx
    · rcases List.mem_append.1 hx with hx | hx
      · exact btw_mem hx
      · rcases List.mem_append.1 hx with hx | hx
        · exact btw_mem hx
        · rcases List.mem_append.1 hx with hx | hx
          · exact btw_mem hx
          · rcases List.mem_append.1 hx with hx | hx
            · exact btw_mem hx
            · exact List.mem_of_mem_drop hx
theorem sm_rot {l l1 : List Pk} {a s u e b : Nat} (h : Rt u l (u - s) (e - u) l1) (hb : b ≤ l.length) (hr : a ≤ s ∧ s ≤ u ∧ u ≤ e ∧ e ≤ b) : l1 = l.take a ++ (btw l a s ++ (btw l u e ++ (btw l s u ++ (btw l e b ++ l.drop b)))) := by
  rw [rot_is h hr.2.1 hr.2.2.1 (by omega)]
  have e1 : l.take s = l.take a ++ btw l a s := by
    unfold btw
    have := (List.take_append_drop a (l.take s)).symm
    rwa [List.take_take, Nat.min_eq_left hr.1] at this
  have e2 : l.drop e = btw l e b ++ l.drop b := by
    unfold btw
    rw [List.drop_take]
    have := (List.take_append_drop (b - e) (l.drop e)).symm
    rwa [List.drop_drop, show e + (b - e) = b by omega] at this
  rw [e1, e2, List.append_assoc]
theorem sm_none {l : List Pk} {a s u e b : Nat} (hr : a ≤ s ∧ s ≤ u ∧ u ≤ e ∧ e ≤ b) (h : s = u ∨ e = u) : l = l.take a ++ (btw l a s ++ (btw l u e ++ (btw l s u ++ (btw l e b ++ l.drop b)))) := by
  have e0 := parts3 (l := l) (a := a) (b := b) (by omega)
  rw [btw_split (l := l) (a := a) (u := s) (b := b) (by omega) (by omega), btw_split (l := l) (a := s) (u := u) (b := b) (by omega) (by omega), btw_split (l := l) (a := u) (u := e) (b := b) (by omega) (by omega)] at e0
  rcases h with rfl | rfl
  · rw [btw_nil (l := l) (a := s) (b := s) (Nat.le_refl _)] at e0 ⊢
    simpa only [List.nil_append, List.append_assoc] using e0
  · rw [btw_nil (l := l) (a := e) (b := e) (Nat.le_refl _)] at e0 ⊢
    simpa only [List.nil_append, List.append_assoc] using e0
theorem srt_sub {l : List Pk} {a x y b : Nat} (h : Srt l a b) (h1 : a ≤ x) (h2 : x ≤ y) (h3 : y ≤ b) : SortedP plI (btw l x y) := by
  unfold Srt at h
  rw [btw_split (l := l) (a := a) (u := x) (b := b) h1 (by omega), btw_split (l := l) (a := x) (u := y) (b := b) h2 h3] at h
  exact (List.pairwise_append.mp (List.pairwise_append.mp h).2.1).1
theorem sm_end {l l1 l2 l3 : List Pk} {a s u e d b : Nat} (hb : b ≤ l.length) (hr : a ≤ s ∧ s ≤ u ∧ u ≤ e ∧ e ≤ b ∧ s + e = d + u) (hd : a ≤ d ∧ d ≤ b ∧ s ≤ d ∧ d ≤ e) (hs1 : Srt l a u) (hs2 : Srt l u b) (h1 : Sm l l1 a s u e d b)
    (hL : (s = a ∨ e = b) ∨ plI (l.getD (s - 1) pk0) ≤ plI (l.getD e pk0)) (hR : (s = u ∨ e = u) ∨ plI (l.getD (e - 1) pk0) < plI (l.getD s pk0))
    (m2 : Mg l1 l2 a d) (o2 : Srt l2 a d) (m3 : Mg l2 l3 d b) (o3 : Srt l3 d b) : Mg l l3 a b ∧ Srt l3 a b := by
  have eA : btw l3 a d = btw l2 a d := btw_lo m3.lo (Nat.le_refl _)
  have eB : btw l2 d b = btw l1 d b := btw_hi m2.hi (Nat.le_refl _)
  have q1 : (btw l2 a d).Perm (btw l a s ++ btw l u e) := by
    have := m2.perm
    rwa [btw_split (l := l1) (a := a) (u := s) (b := d) (by omega) (by omega), h1.p1, h1.p2] at this
  have q2 : (btw l3 d b).Perm (btw l s u ++ btw l e b) := by
    have := m3.perm
    rwa [eB, btw_split (l := l1) (a := d) (u := e) (b := b) (by omega) (by omega), h1.p3, h1.p4] at this
  have n1 : (btw l a s).length = s - a := btw_len (by omega)
  have n2 : (btw l u e).length = e - u := btw_len (by omega)
  have eS1 : btw l a u = btw l a s ++ btw l s u := btw_split (by omega) (by omega)
  have eS2 : btw l u b = btw l u e ++ btw l e b := btw_split (by omega) (by omega)
  have t1 : (btw l a u).take (s - a) = btw l a s := by rw [eS1, List.take_left' n1]
  have t2 : (btw l a u).drop (s - a) = btw l s u := by rw [eS1, List.drop_left' n1]
  have t3 : (btw l u b).take (e - u) = btw l u e := by rw [eS2, List.take_left' n2]
  have t4 : (btw l u b).drop (e - u) = btw l e b := by rw [eS2, List.drop_left' n2]
  have z1 : (btw l a u).length = u - a := btw_len (by omega)
  have z2 : (btw l u b).length = b - u := btw_len hb
  have hx : ∀ x ∈ (btw l a u).take (s - a), ∀ y ∈ (btw l u b).drop (e - u), plI x ≤ plI y := by
    intro x hx y hy
    rcases hL with (h | h) | h
    · rw [t1, btw_nil (by omega)] at hx; exact absurd hx List.not_mem_nil
    · rw [t4, btw_nil (by omega)] at hy; exact absurd hy List.not_mem_nil
    · rcases Nat.lt_or_ge a s with c1 | c1
      · rcases Nat.lt_or_ge e b with c2 | c2
        · have g1 := take_le hs1 pk0 (v := plI (l.getD (s - 1) pk0)) (k := s - a) (by omega) (.inr (by rw [btw_get (by omega), show a + (s - a - 1) = s - 1 by omega]; exact Int.le_refl _)) x hx
          have g2 := drop_ge hs2 pk0 (v := plI (l.getD e pk0)) (k := e - u) (.inr (by rw [btw_get (by omega), show u + (e - u) = e by omega]; exact Int.le_refl _)) y hy
          omega
        · rw [t4, btw_nil (by omega)] at hy; exact absurd hy List.not_mem_nil
      · rw [t1, btw_nil (by omega)] at hx; exact absurd hx List.not_mem_nil
  have hy : ∀ x ∈ (btw l u b).take (e - u), ∀ y ∈ (btw l a u).drop (s - a), plI x ≤ plI y := by
    intro x hx y hy
    rcases hR with (h | h) | h
    · rw [t2, btw_nil (by omega)] at hy; exact absurd hy List.not_mem_nil
    · rw [t3, btw_nil (by omega)] at hx; exact absurd hx List.not_mem_nil
    · rcases Nat.lt_or_ge u e with c1 | c1
      · rcases Nat.lt_or_ge s u with c2 | c2
        · have g1 := take_le hs2 pk0 (v := plI (l.getD (e - 1) pk0)) (k := e - u) (by omega) (.inr (by rw [btw_get (by omega), show u + (e - u - 1) = e - 1 by omega]; exact Int.le_refl _)) x hx
          have g2 := drop_ge hs1 pk0 (v := plI (l.getD s pk0)) (k := s - a) (.inr (by rw [btw_get (by omega), show a + (s - a) = s by omega]; exact Int.le_refl _)) y hy
          omega
        · rw [t2, btw_nil (by omega)] at hy; exact absurd hy List.not_mem_nil
      · rw [t3, btw_nil (by omega)] at hx; exact absurd hx List.not_mem_nil
  have J := merge_join hs1 hs2 (T1 := btw l2 a d) (T2 := btw l3 d b) (p1 := s - a) (p2 := e - u) (by rw [t1, t3]; exact q1) o2 (by rw [t2, t4]; exact q2) o3 hx hy
  have e3 : btw l3 a b = btw l2 a d ++ btw l3 d b := by rw [btw_split (l := l3) (a := a) (u := d) (b := b) (by omega) (by omega), eA]
  have k1 : ∀ q q' : List Pk, q.take d = q'.take d → q.take a = q'.take a := fun q q' h => by
    have e : ∀ q : List Pk, q.take a = (q.take d).take a := fun q => by rw [List.take_take, Nat.min_eq_left hd.1]
    rw [e q, e q', h]
  have k2 : ∀ q q' : List Pk, q.drop d = q'.drop d → q.drop b = q'.drop b := fun q q' h => by
    have e : ∀ q : List Pk, q.drop b = (q.drop d).drop (b - d) := fun q => by rw [List.drop_drop, show d + (b - d) = b by omega]
    rw [e q, e q', h]
  refine ⟨⟨?_, ?_, ?_, ?_⟩, ?_⟩
  · rw [m3.len, m2.len, h1.len]
  · rw [k1 _ _ m3.lo, m2.lo, h1.lo]
  · rw [m3.hi, k2 _ _ m2.hi, h1.hi]
  · rw [e3, btw_split (l := l) (a := a) (u := u) (b := b) (by omega) (by omega)]; exact J.1
  · unfold Srt; rw [e3]; exact J.2
end Go.Proofs.YtjgpdbkkpomhjaaX
