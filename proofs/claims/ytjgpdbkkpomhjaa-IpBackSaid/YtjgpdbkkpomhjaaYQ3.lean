/- Two neighbouring stretches exchanged: what comes of it. Plain laws. Conditions: none. -/
import Derived.Test.YtjgpdbkkpomhjaaYQ0
namespace Go.Proofs.YtjgpdbkkpomhjaaX
open Go.RowKit
set_option linter.unusedVariables false
theorem swR_at {l : List Pk} {a b k : Nat} (hab : a + k ≤ b) (hb : b + k ≤ l.length) : ∀ i, i ≤ k → ∀ t, (swR l a b i)[t]? = if a ≤ t ∧ t < a + i then l[b + (t - a)]? else if b ≤ t ∧ t < b + i then l[a + (t - b)]? else l[t]?
  | 0, _, t => by
    rw [if_neg (by omega), if_neg (by omega)]
    rfl
  | i + 1, hi, t => by
    have ih := swR_at hab hb i (by omega)
    have h1 : (swR l a b i).getD (b + i) pk0 = l.getD (b + i) pk0 := by
      simp only [List.getD]
      rw [ih (b + i), if_neg (by omega), if_neg (by omega)]
    have h2 : (swR l a b i).getD (a + i) pk0 = l.getD (a + i) pk0 := by
      simp only [List.getD]
      rw [ih (a + i), if_neg (by omega), if_neg (by omega)]
    have hl := swR_len l a b i
    have g : ∀ n, n < l.length → some (l.getD n pk0) = l[n]? := fun n hn => by simp [List.getD, hn]
    unfold swR
    rw [h1, h2, List.getElem?_set]
    by_cases e1 : b + i = t
    · rw [if_pos e1, List.length_set, hl, if_pos (by omega), g _ (by omega), if_neg (by omega), if_pos (by omega)]
      congr 1
      omega
    · rw [if_neg e1, List.getElem?_set]
      by_cases e2 : a + i = t
      · rw [if_pos e2, hl, if_pos (by omega), g _ (by omega), if_pos (by omega)]
        congr 1
        omega
      · rw [if_neg e2, ih t]
        by_cases c1 : a ≤ t ∧ t < a + i
        · rw [if_pos c1, if_pos (by omega)]
        · rw [if_neg c1, if_neg (show ¬ (a ≤ t ∧ t < a + (i + 1)) by omega)]
          by_cases c2 : b ≤ t ∧ t < b + i
          · rw [if_pos c2, if_pos (by omega)]
          · rw [if_neg c2, if_neg (by omega)]
theorem swR_parts {X U M V Y : List Pk} {a b k : Nat} (hX : X.length = a) (hU : U.length = k) (hV : V.length = k) (hb : b = a + k + M.length) : swR (X ++ (U ++ (M ++ (V ++ Y)))) a b k = X ++ (V ++ (M ++ (U ++ Y))) := by
  apply List.ext_getElem?
  intro t
  rw [swR_at (k := k) (by omega) (by simp only [List.length_append]; omega) k (Nat.le_refl _) t]
  simp only [List.getElem?_append, hX, hU, hV]
  split
  · rename_i c
    rw [if_neg (by omega), if_neg (by omega), if_neg (by omega), if_pos (by omega), if_neg (by omega), if_pos (by omega)]
    congr 1; omega
  · split
    · rename_i c1 c
      rw [if_neg (by omega), if_pos (by omega), if_neg (by omega), if_neg (by omega), if_neg (by omega), if_pos (by omega)]
      congr 1; omega
    · rename_i c1 c2
      by_cases d1 : t < a
      · rw [if_pos d1, if_pos d1]
      · rw [if_neg d1, if_neg d1]
        by_cases d2 : t - a < k
        · omega
        · rw [if_neg d2, if_neg d2]
          by_cases d3 : t - a - k < M.length
          · rw [if_pos d3, if_pos d3]
          · rw [if_neg d3, if_neg d3]
            by_cases d4 : t - a - k - M.length < k
            · omega
            · rw [if_neg d4, if_neg d4]
theorem Rt.parts {m : Nat} {l l' : List Pk} {i j : Nat} (h : Rt m l i j l') : ∀ {X U V Y : List Pk}, l = X ++ (U ++ (V ++ Y)) → X.length + i = m → U.length = i → V.length = j → l' = X ++ (V ++ (U ++ Y)) := by
  induction h with
  | @eq l i =>
    intro X U V Y hl hX hU hV
    subst hl
    have h := swR_parts (X := X) (U := U) (M := []) (V := V) (Y := Y) (a := m - i) (b := m) (k := i) (by omega) hU hV (by simp; omega)
    simpa using h
  | @gt l l' i j h h2 ih =>
    intro X U V Y hl hX hU hV
    subst hl
    -- U = U1 ++ U2, U1 as long as V
    have hu : U = U.take j ++ U.drop j := (List.take_append_drop j U).symm
    have h3 : (U.take j).length = j := by rw [List.length_take]; omega
    have h4 : (U.drop j).length = i - j := by rw [List.length_drop]; omega
    have e := swR_parts (X := X) (U := U.take j) (M := U.drop j) (V := V) (Y := Y) (a := m - i) (b := m) (k := j) (by omega) h3 hV (by omega)
    have e2 : X ++ (U ++ (V ++ Y)) = X ++ (U.take j ++ (U.drop j ++ (V ++ Y))) := by rw [← List.append_assoc (U.take j), ← hu]
    rw [e2, e] at ih
    have := ih (X := X ++ V) (U := U.drop j) (V := U.take j) (Y := Y) (by simp) (by simp; omega) h4 h3
    rw [this]
    simp only [List.append_assoc]
    rw [← List.append_assoc (U.take j), ← hu]
  | @lt l l' i j h h2 ih =>
    intro X U V Y hl hX hU hV
    subst hl
    have hv : V = V.take (j - i) ++ V.drop (j - i) := (List.take_append_drop (j - i) V).symm
    have h3 : (V.take (j - i)).length = j - i := by rw [List.length_take]; omega
    have h4 : (V.drop (j - i)).length = i := by rw [List.length_drop]; omega
    have e := swR_parts (X := X) (U := U) (M := V.take (j - i)) (V := V.drop (j - i)) (Y := Y) (a := m - i) (b := m + j - i) (k := i) (by omega) hU h4 (by omega)
    have e2 : X ++ (U ++ (V ++ Y)) = X ++ (U ++ (V.take (j - i) ++ (V.drop (j - i) ++ Y))) := by rw [← List.append_assoc (V.take (j - i)), ← hv]
    rw [e2, e] at ih
    have := ih (X := X) (U := V.drop (j - i)) (V := V.take (j - i)) (Y := U ++ Y) rfl (by omega) h4 h3
    rw [this]
    rw [← List.append_assoc (V.take (j - i)), ← hv]
end Go.Proofs.YtjgpdbkkpomhjaaX
