/- IP packets passed, marked, parted, joined: what is told. Plain definitions and laws. Conditions: none. -/
import Derived.Test.YtjgpdbkkpomhjaaYJ4
namespace Go.Proofs.YtjgpdbkkpomhjaaX
open Go.RowKit
set_option linter.unusedVariables false
def ttlI (h : Ih) : Ih := ⟨h.x0, h.x1 - 1, h.x2, h.x3, h.x4, h.x5, h.x6, h.x7, h.x8, h.x9, h.y0, h.y1, h.y2⟩
def tosI (h : Ih) (t : Int) : Ih := ⟨t, h.x1, h.x2, h.x3, h.x4, h.x5, h.x6, h.x7, h.x8, h.x9, h.y0, h.y1, h.y2⟩
def frI (h : Ih) (f : Int) : Ih := ⟨h.x0, h.x1, h.x2, h.x3, f, h.x5, h.x6, h.x7, h.x8, h.x9, h.y0, h.y1, h.y2⟩
theorem ttlI_ok {h : Ih} (hh : h.ok) (h1 : 1 ≤ h.x1) : (ttlI h).ok := by
  obtain ⟨h0, h1', h2, h3, h4, h5, h6, h7, h8, h9, k0, k1, k2⟩ := hh
  exact ⟨h0, by show 0 ≤ h.x1 - 1 ∧ h.x1 - 1 ≤ 255; omega, h2, h3, h4, h5, h6, h7, h8, h9, k0, k1, k2⟩
theorem tosI_ok {h : Ih} (hh : h.ok) {t : Int} (ht : 0 ≤ t ∧ t ≤ 255) : (tosI h t).ok := by
  obtain ⟨h0, h1', h2, h3, h4, h5, h6, h7, h8, h9, k0, k1, k2⟩ := hh
  exact ⟨ht, h1', h2, h3, h4, h5, h6, h7, h8, h9, k0, k1, k2⟩
theorem frI_ok {h : Ih} (hh : h.ok) {f : Int} (hf : 0 ≤ f ∧ f ≤ 65535) : (frI h f).ok := by
  obtain ⟨h0, h1', h2, h3, h4, h5, h6, h7, h8, h9, k0, k1, k2⟩ := hh
  exact ⟨h0, h1', h2, h3, hf, h5, h6, h7, h8, h9, k0, k1, k2⟩
def hopI (b : List Int) : List Int × Int := if (decI b).2 ≠ 0 then ([], (decI b).2) else if (decI b).1.1.x1 < 2 then ([], 10) else encI (ttlI (decI b).1.1) (decI b).1.2
def putT (x c : Int) : Int := x - x % 4 + c
def markI (b : List Int) : List Int × Int := if (decI b).2 ≠ 0 then ([], (decI b).2) else if (decI b).1.1.x0 % 4 = 0 then ([], 7) else encI (tosI (decI b).1.1 (putT (decI b).1.1.x0 3)) (decI b).1.2
section
variable {b : List Int} {h : Ih} {d : ByteArray} {e : Int}
theorem hopI_err (hd : decI b = ((h, d), e)) (he : e ≠ 0) : hopI b = ([], e) := by unfold hopI; rw [hd]; exact if_pos he
theorem hopI_old (hd : decI b = ((h, d), e)) (he : e = 0) (h1 : h.x1 < 2) : hopI b = ([], 10) := by unfold hopI; rw [hd, if_neg (fun h_ => h_ he)]; exact if_pos h1
theorem hopI_fine (hd : decI b = ((h, d), e)) (he : e = 0) (h1 : ¬ h.x1 < 2) : hopI b = encI (ttlI h) d := by unfold hopI; rw [hd, if_neg (fun h_ => h_ he)]; exact if_neg h1
theorem markI_err (hd : decI b = ((h, d), e)) (he : e ≠ 0) : markI b = ([], e) := by unfold markI; rw [hd]; exact if_pos he
theorem markI_kind (hd : decI b = ((h, d), e)) (he : e = 0) (h1 : h.x0 % 4 = 0) : markI b = ([], 7) := by unfold markI; rw [hd, if_neg (fun h_ => h_ he)]; exact if_pos h1
theorem markI_fine (hd : decI b = ((h, d), e)) (he : e = 0) (h1 : ¬ h.x0 % 4 = 0) : markI b = encI (tosI h (putT h.x0 3)) d := by unfold markI; rw [hd, if_neg (fun h_ => h_ he)]; exact if_neg h1
end
theorem and3 {x : Int} (h : 0 ≤ x ∧ x ≤ 255) : band .u8 x 3 = x % 4 := by
  have := band_low (k := .u8) (m := 2) rfl h.1 (by show x < 256; omega) (by decide)
  rwa [show ((2 ^ 2 - 1 : Nat) : Int) = 3 by decide, show (2 : Int) ^ 2 = 4 by decide] at this
theorem put_all : ∀ x : Fin 256, ∀ c : Fin 4, bor .u8 (bandnot .u8 ((x.val : Nat) : Int) 3) ((c.val : Nat) : Int) = ((x.val : Nat) : Int) - ((x.val : Nat) : Int) % 4 + ((c.val : Nat) : Int) := by decide +kernel
theorem put3 {x c : Int} (h : 0 ≤ x ∧ x ≤ 255) (hc : 0 ≤ c ∧ c ≤ 3) : bor .u8 (bandnot .u8 x 3) (IntKind.u8.wrap c) = putT x c := by
  obtain ⟨m, rfl⟩ := Int.eq_ofNat_of_zero_le h.1
  obtain ⟨n, rfl⟩ := Int.eq_ofNat_of_zero_le hc.1
  rw [wu8 (by omega) (by omega)]
  exact put_all ⟨m, by omega⟩ ⟨n, by omega⟩
theorem rput3 {x c : Int} (h : 0 ≤ x ∧ x ≤ 255) (hc : 0 ≤ c ∧ c ≤ 3) : IntKind.u8.wrap (IntKind.u8.wrap (x - Int.tmod x 4) + IntKind.u8.wrap c) = putT x c := by
  rw [Int.tmod_eq_emod_of_nonneg h.1, wu8 (x := c) (by omega) (by omega), wu8 (x := x - x % 4) (by omega) (by omega), wu8 (by omega) (by omega)]
  rfl
end Go.Proofs.YtjgpdbkkpomhjaaX
