/- IP packets parted: what is told. Plain definitions and laws. Conditions: none. -/
import Derived.Test.YtjgpdbkkpomhjaaYJ7
namespace Go.Proofs.YtjgpdbkkpomhjaaX
open Go.RowKit
set_option linter.unusedVariables false
def moreS (h : Ih) (d : ByteArray) (m j : Nat) : Int := if j * m + m < d.size then 8192 else h.x4 / 8192 % 2 * 8192
def fragS (h : Ih) (d : ByteArray) (m j : Nat) : Int := h.x4 % 8192 + ((j * m : Nat) : Int) / 8 + moreS h d m j
def datS (d : ByteArray) (m j : Nat) : ByteArray := d.extract (j * m) (min (j * m + m) d.size)
/-- The j-th part. -/
def prtS (h : Ih) (d : ByteArray) (m j : Nat) : List Int := (encI (frI h (fragS h d m j)) (datS d m j)).1
def nS (d : ByteArray) (m : Nat) : Nat := (d.size + m - 1) / m
def mS (mtu : Int) : Nat := ((mtu - 20) / 8 * 8).toNat
/-- All parts. -/
def splS (h : Ih) (d : ByteArray) (mtu : Int) : List (List Int) := if 20 + (d.size : Int) ≤ mtu then [(encI h d).1] else (List.range (nS d (mS mtu))).map (prtS h d (mS mtu))
theorem nS_is {d : ByteArray} {m j p : Nat} (hp : p = j * m) (h1 : d.size ≤ p) (h2 : p < d.size + m) : nS d m = j := by
  unfold nS
  refine Nat.div_eq_of_lt_le ?_ ?_
  · rw [← hp]; omega
  · rw [Nat.add_mul, Nat.one_mul, ← hp]; omega
theorem nS_le {d : ByteArray} {m : Nat} (hm : 1 ≤ m) : nS d m ≤ d.size := by
  unfold nS
  rcases Nat.eq_zero_or_pos d.size with h0 | h0
  · rw [h0, Nat.div_eq_of_lt (by omega)]; omega
  · exact (Nat.div_le_iff_le_mul_add_pred (by omega)).mpr (by have := Nat.le_mul_of_pos_left d.size (show 0 < m by omega); omega)
theorem or_last {n x : Int} (h : 0 ≤ n ∧ n < 8192) : bor .u16 n (x / 8192 % 2 * 8192) = n + x / 8192 % 2 * 8192 := by
  rcases (show x / 8192 % 2 = 0 ∨ x / 8192 % 2 = 1 by omega) with e | e
  · rw [e]
    show bor .u16 n 0 = _
    rw [or_none (by omega)]
    omega
  · rw [e]
    show bor .u16 n 8192 = _
    rw [or_more h]
    omega
theorem part_is {h : Ih} {d : ByteArray} {m j p e : Nat} {f : Int} (hp : p = j * m) (he : e = min (p + m) d.size) (hf : f = h.x4 % 8192 + (p : Int) / 8 + (if p + m < d.size then 8192 else h.x4 / 8192 % 2 * 8192)) : (encI (frI h f) (d.extract p e)).1 = prtS h d m j := by
  subst hp he hf
  rfl
end Go.Proofs.YtjgpdbkkpomhjaaX
