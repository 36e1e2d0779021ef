/- One element ahead of what is in order, put where it belongs: the end. Plain laws. Conditions: none. -/
import Derived.Test.YtjgpdbkkpomhjaaYQ5
namespace Go.Proofs.YtjgpdbkkpomhjaaX
open Go.RowKit
set_option linter.unusedVariables false
theorem btw_mid {X Z Y : List Pk} {a b : Nat} (hX : X.length = a) (hZ : a + Z.length = b) : btw (X ++ (Z ++ Y)) a b = Z := by
  unfold btw
  rw [← List.append_assoc, List.take_left' (by rw [List.length_append]; omega), List.drop_left' hX]
theorem mg_mid {l Z : List Pk} {a b : Nat} (h : a ≤ b) (hb : b ≤ l.length) (hp : Z.Perm (btw l a b)) : Mg l (l.take a ++ (Z ++ l.drop b)) a b := by
  have hX : (l.take a).length = a := by rw [List.length_take]; omega
  have hZ : Z.length = b - a := by rw [hp.length_eq]; exact btw_len hb
  refine ⟨?_, ?_, ?_, ?_⟩
  · rw [List.length_append, List.length_append, hX, hZ, List.length_drop]; omega
  · rw [List.take_left' hX]
  · rw [← List.append_assoc, List.drop_left' (by rw [List.length_append]; omega)]
  · rw [btw_mid hX (by omega)]; exact hp
theorem btw_head {l : List Pk} {a b : Nat} (h : a + 1 ≤ b) (hb : b ≤ l.length) : btw l a b = l.getD a pk0 :: btw l (a + 1) b := by
  rw [btw_split (u := a + 1) (by omega) h]
  have : btw l a (a + 1) = [l.getD a pk0] := by
    unfold btw
    rw [List.take_succ_eq_append_getElem (by omega), List.drop_append_of_le_length (by rw [List.length_take]; omega), List.drop_of_length_le (by rw [List.length_take]; omega)]
    simp [List.getD, show a < l.length by omega]
  rw [this]
  rfl
theorem btw_one {l : List Pk} {a : Nat} (h : a < l.length) : btw l a (a + 1) = [l.getD a pk0] := by
  rw [btw_head (by omega) (by omega)]
  unfold btw
  rw [List.drop_of_length_le (by rw [List.length_take]; omega)]
/-- One element put where it belongs among what is in order. -/
theorem ins_end {l S : List Pk} {a b k : Nat} {p : Pk} (hab : a ≤ b) (hb : b ≤ l.length) (hp : (p :: S).Perm (btw l a b)) (hs : SortedP plI S) (hk : k ≤ S.length) (h1 : k = 0 ∨ plI (S.getD (k - 1) pk0) ≤ plI p) (h2 : S.length ≤ k ∨ plI p ≤ plI (S.getD k pk0)) : Mg l (mid (l.take a) S p (l.drop b) k) a b ∧ Srt (mid (l.take a) S p (l.drop b) k) a b := by
  have hz := put_between hs (take_le hs pk0 hk h1) (drop_ge hs pk0 h2)
  have hX : (l.take a).length = a := by rw [List.length_take]; omega
  have hZ : (S.take k ++ p :: S.drop k).length = b - a := by rw [hz.1.length_eq, hp.length_eq]; exact btw_len hb
  have e : mid (l.take a) S p (l.drop b) k = l.take a ++ ((S.take k ++ p :: S.drop k) ++ l.drop b) := by unfold mid; rw [List.append_assoc]
  rw [e]
  refine ⟨mg_mid hab hb (hz.1.trans hp), ?_⟩
  unfold Srt
  rw [btw_mid hX (by omega)]
  exact hz.2
/-- The same, from the far end. -/
theorem mid_end {l : List Pk} {a m : Nat} (h : a ≤ m) (hm : m < l.length) : l = mid (l.take a) (btw l a m) (l.getD m pk0) (l.drop (m + 1)) (btw l a m).length := by
  have h2 := parts3 (l := l) (a := a) (b := m + 1) (by omega)
  rw [btw_split h (by omega : m ≤ m + 1), btw_one hm] at h2
  unfold mid
  rw [List.take_length, List.drop_length, List.append_assoc]
  exact h2
end Go.Proofs.YtjgpdbkkpomhjaaX
