/- A stretch of a list put in order: what is told. Plain definitions and laws. Conditions: none. -/
import Derived.Test.YtjgpdbkkpomhjaaYQ4
namespace Go.Proofs.YtjgpdbkkpomhjaaX
open Go.RowKit
set_option linter.unusedVariables false
theorem half_nat {x y : Nat} (h : x + y ≤ 1000000) : IntKind.i64.wrap (bshr .u64 (IntKind.u64.wrap (IntKind.i64.wrap ((x : Int) + (y : Int)))) 1) = (((x + y) / 2 : Nat) : Int) := by
  rw [wi64 (x := (x : Int) + (y : Int)) (by omega) (by omega), u64_wrap]
  unfold bshr
  rw [show min 1 IntKind.u64.bits = 1 from rfl, show (2 : Int) ^ 1 = 2 by decide, Int.fdiv_eq_ediv_of_nonneg _ (by decide), wi64 (by omega) (by omega)]
  omega
/-- The list between a and b. -/
def btw (l : List Pk) (a b : Nat) : List Pk := (l.take b).drop a
def Srt (l : List Pk) (a b : Nat) : Prop := SortedP plI (btw l a b)
/-- Only what lies between a and b was put in another order. -/
structure Mg (l l' : List Pk) (a b : Nat) : Prop where
  len : l'.length = l.length
  lo : l'.take a = l.take a
  hi : l'.drop b = l.drop b
  perm : (btw l' a b).Perm (btw l a b)
theorem btw_len {l : List Pk} {a b : Nat} (h : b ≤ l.length) : (btw l a b).length = b - a := by
  unfold btw
  rw [List.length_drop, List.length_take]
  omega
theorem btw_split {l : List Pk} {a u b : Nat} (h1 : a ≤ u) (h2 : u ≤ b) : btw l a b = btw l a u ++ btw l u b := by
  unfold btw
  have e : l.take b = l.take u ++ (l.take b).drop u := by
    have := (List.take_append_drop u (l.take b)).symm
    rwa [List.take_take, Nat.min_eq_left h2] at this
  conv => lhs; rw [e]
  by_cases h : a ≤ (l.take u).length
  · rw [List.drop_append_of_le_length h]
  · rw [List.drop_append, List.drop_of_length_le (by omega), List.nil_append]
    have hlen : l.length ≤ u := by rw [List.length_take] at h; omega
    rw [List.drop_of_length_le (l := l.take b) (by rw [List.length_take]; omega)]
    simp
theorem parts3 {l : List Pk} {a b : Nat} (h : a ≤ b) : l = l.take a ++ (btw l a b ++ l.drop b) := by
  unfold btw
  have e : (l.take b).take a = l.take a := by rw [List.take_take, Nat.min_eq_left h]
  rw [← List.append_assoc, ← e, List.take_append_drop, List.take_append_drop]
theorem rot_is {l l' : List Pk} {a u b : Nat} (h : Rt u l (u - a) (b - u) l') (h1 : a ≤ u) (h2 : u ≤ b) (h3 : b ≤ l.length) : l' = l.take a ++ (btw l u b ++ (btw l a u ++ l.drop b)) := by
  refine h.parts (X := l.take a) (U := btw l a u) (V := btw l u b) (Y := l.drop b) ?_ ?_ (btw_len (by omega)) (btw_len h3)
  · have := parts3 (l := l) (a := a) (b := b) (by omega)
    rw [btw_split h1 h2, List.append_assoc] at this
    exact this
  · rw [List.length_take]; omega
theorem mid_zero {l : List Pk} {a b : Nat} (h : a + 1 ≤ b) (hb : b ≤ l.length) : l = mid (l.take a) (btw l (a + 1) b) (l.getD a pk0) (l.drop b) 0 := by
  have h1 : btw l a b = l.getD a pk0 :: btw l (a + 1) b := by
    rw [btw_split (u := a + 1) (by omega) h]
    have : btw l a (a + 1) = [l.getD a pk0] := by
      unfold btw
      rw [List.take_succ_eq_append_getElem (by omega), List.drop_append_of_le_length (by rw [List.length_take]; omega), List.drop_of_length_le (by rw [List.length_take]; omega)]
      simp [List.getD, show a < l.length by omega]
    rw [this]
    rfl
  have h2 := parts3 (l := l) (a := a) (b := b) (by omega)
  rw [h1] at h2
  unfold mid
  simpa using h2
theorem mid_back {X S Y : List Pk} {p : Pk} {a k : Nat} (hX : X.length = a) (hk : k < S.length) : ((mid X S p Y k).set (a + k) ((mid X S p Y k).getD (a + k + 1) pk0)).set (a + k + 1) ((mid X S p Y k).getD (a + k) pk0) = mid X S p Y (k + 1) := by
  have h1 : (mid X S p Y k).getD (a + k) pk0 = p := by rw [← hX]; exact mid_at pk0 (by omega)
  have e : S.take (k + 1) = S.take k ++ [S.getD k pk0] := by rw [List.take_succ_eq_append_getElem hk]; simp [List.getD, hk]
  have e2 : S.drop k = S.getD k pk0 :: S.drop (k + 1) := by rw [List.drop_eq_getElem_cons hk]; simp [List.getD, hk]
  have hl : (S.take k).length = k := by rw [List.length_take]; omega
  have h2 : (mid X S p Y k).getD (a + k + 1) pk0 = S.getD k pk0 := by
    simp only [mid, List.getD, List.append_assoc, e2]
    rw [List.getElem?_append_right (by omega), List.getElem?_append_right (by omega), show a + k + 1 - X.length - (S.take k).length = 1 by omega]
    rfl
  rw [h1, h2]
  simp only [mid, e, e2, List.append_assoc]
  rw [List.set_append, if_neg (by omega), List.set_append, if_neg (by omega), List.set_append, if_neg (by omega), List.set_append, if_neg (by omega)]
  rw [show a + k + 1 - X.length - (S.take k).length = 1 by omega, show a + k - X.length - (S.take k).length = 0 by omega]
  rfl
theorem btw_get {l : List Pk} {a b k : Nat} (h : a + k < b) : (btw l a b).getD k pk0 = l.getD (a + k) pk0 := by
  unfold btw
  simp only [List.getD, List.getElem?_drop, List.getElem?_take]
  rw [if_pos h]
end Go.Proofs.YtjgpdbkkpomhjaaX
