/- A part of a law's proof. Conditions: none. -/
import Derived.Test.YtjgpdbkkpomhjaaQYI2
import Derived.Test.YtjgpdbkkpomhjaaQYG1
namespace Go.Proofs.YtjgpdbkkpomhjaaX
open Go.RowKit
set_option linter.unusedVariables false
structure Hd where
  s0 : Int
  s1 : Int
  s2 : Int
  s3 : Int
  s4 : Int
  s5 : Int
  s6 : Int
  s7 : Int
  s8 : Int
  s9 : Int
structure Hd.ok (h : Hd) : Prop where
  h0 : 0 ≤ h.s0 ∧ h.s0 ≤ 65535
  h1 : 0 ≤ h.s1 ∧ h.s1 ≤ 65535
  h2 : 0 ≤ h.s2 ∧ h.s2 ≤ 4294967295
  h3 : 0 ≤ h.s3 ∧ h.s3 ≤ 4294967295
  h4 : 0 ≤ h.s4 ∧ h.s4 ≤ 255
  h5 : 0 ≤ h.s5 ∧ h.s5 ≤ 255
  h6 : 0 ≤ h.s6 ∧ h.s6 ≤ 255
  h7 : 0 ≤ h.s7 ∧ h.s7 ≤ 65535
  h8 : 0 ≤ h.s8 ∧ h.s8 ≤ 65535
  h9 : 0 ≤ h.s9 ∧ h.s9 ≤ 65535
structure Ad where
  a0 : Int
  a1 : Int
  a2 : Int
  a3 : Int
  b0 : Int
  b1 : Int
  b2 : Int
  b3 : Int
def Ad.ok (a : Ad) : Prop := (0 ≤ a.a0 ∧ a.a0 ≤ 255) ∧ (0 ≤ a.a1 ∧ a.a1 ≤ 255) ∧ (0 ≤ a.a2 ∧ a.a2 ≤ 255) ∧ (0 ≤ a.a3 ∧ a.a3 ≤ 255) ∧ (0 ≤ a.b0 ∧ a.b0 ≤ 255) ∧ (0 ≤ a.b1 ∧ a.b1 ≤ 255) ∧ (0 ≤ a.b2 ∧ a.b2 ≤ 255) ∧ (0 ≤ a.b3 ∧ a.b3 ≤ 255)
theorem printO_len (xs : List Opt) : (printO xs).length % 4 = 0 ∧ (printO xs).length ≤ 40 := by
  by_cases h : errO xs = 0
  · unfold printO
    rw [if_pos h]
    obtain ⟨h1, h2, _⟩ := padZ_len (bodyO xs)
    have h3 := bodyO_len xs
    have h4 := (errO_zero h).2
    omega
  · rw [printO_no h]
    decide
def offS (xs : List Opt) : Int := 5 + ((printO xs).length : Int) / 4
theorem offS_range (xs : List Opt) : 5 ≤ offS xs ∧ offS xs ≤ 15 := by
  have := printO_len xs
  unfold offS
  omega
def rawS (h : Hd) (xs : List Opt) (d : ByteArray) (n : Int) : List Int := enc11 h.s0 h.s1 h.s2 h.s3 (offS xs) h.s5 h.s6 h.s7 n h.s9 ++ printO xs ++ bytesL d
theorem rawS_len (h : Hd) (xs : List Opt) (d : ByteArray) (n : Int) : (rawS h xs d n).length = 20 + (printO xs).length + d.size := by
  unfold rawS
  rw [List.length_append, List.length_append, bytesL_length]
  rfl
def psd (a : Ad) (n : Nat) : List Int := [a.a0, a.a1, a.a2, a.a3, a.b0, a.b1, a.b2, a.b3, 0, 6, (n : Int) % 65536 / 256, (n : Int) % 256]
theorem psd_bytes {a : Ad} (ha : a.ok) (n : Nat) : isBytes (psd a n) := by
  obtain ⟨h0, h1, h2, h3, h4, h5, h6, h7⟩ := ha
  intro x hx
  simp only [psd, List.mem_cons, List.not_mem_nil, or_false] at hx
  rcases hx with rfl | rfl | rfl | rfl | rfl | rfl | rfl | rfl | rfl | rfl | rfl | rfl <;> omega
theorem rawS_bytes {h : Hd} (hh : h.ok) (xs : List Opt) (d : ByteArray) {n : Int} (hn : 0 ≤ n ∧ n ≤ 65535) (h5 : h.s5 ≤ 7) (h6 : h.s6 ≤ 63) : isBytes (rawS h xs d n) := by
  have ho := offS_range xs
  unfold rawS
  rw [List.append_assoc]
  refine encBytes _ _ _ _ _ _ _ _ _ _ hh.h0 hh.h1 hh.h2 hh.h3 (by omega) hh.h5 hh.h6 hh.h7 hn hh.h9 ⟨by omega, by omega, h5, h6⟩ _ ?_
  intro x hx
  rcases List.mem_append.1 hx with hx | hx
  · exact printO_range _ x hx
  · exact bytesL_range _ x hx
def sumS (a : Ad) (h : Hd) (xs : List Opt) (d : ByteArray) : Int := cks (psd a (20 + (printO xs).length + d.size) ++ rawS h xs d 0)
theorem sumS_range {a : Ad} {h : Hd} (ha : a.ok) (hh : h.ok) (xs : List Opt) (d : ByteArray) (h5 : h.s5 ≤ 7) (h6 : h.s6 ≤ 63) : 0 ≤ sumS a h xs d ∧ sumS a h xs d ≤ 65535 := by
  refine cks_bounds (fun x hx => ?_)
  rcases List.mem_append.1 hx with hx | hx
  · exact psd_bytes ha _ x hx
  · exact rawS_bytes hh xs d (by omega) h5 h6 x hx
def encS (a : Ad) (h : Hd) (xs : List Opt) (d : ByteArray) : List Int × Int :=
  if errO xs ≠ 0 then ([], errO xs) else if 65000 < d.size then ([], 4) else if h.s5 ≤ 7 ∧ h.s6 ≤ 63 then (rawS h xs d (sumS a h xs d), 0) else ([], 2)
theorem encS_err {a : Ad} {h : Hd} {xs : List Opt} {d : ByteArray} (he : errO xs ≠ 0) : encS a h xs d = ([], errO xs) := if_pos he
theorem encS_long {a : Ad} {h : Hd} {xs : List Opt} {d : ByteArray} (he : errO xs = 0) (hd : 65000 < d.size) : encS a h xs d = ([], 4) := by
  unfold encS; rw [if_neg (by omega), if_pos hd]
theorem encS_form {a : Ad} {h : Hd} {xs : List Opt} {d : ByteArray} (he : errO xs = 0) (hd : ¬ 65000 < d.size) (hc : ¬ (h.s5 ≤ 7 ∧ h.s6 ≤ 63)) : encS a h xs d = ([], 2) := by
  unfold encS; rw [if_neg (by omega), if_neg hd, if_neg hc]
theorem encS_fine {a : Ad} {h : Hd} {xs : List Opt} {d : ByteArray} (he : errO xs = 0) (hd : ¬ 65000 < d.size) (hc : h.s5 ≤ 7 ∧ h.s6 ≤ 63) : encS a h xs d = (rawS h xs d (sumS a h xs d), 0) := by
  unfold encS; rw [if_neg (by omega), if_neg hd, if_pos hc]
theorem off_u8 {n : Nat} (h : n ≤ 40) : IntKind.u8.wrap (IntKind.i64.wrap (5 + IntKind.i64.wrap (Int.tdiv (n : Int) 4))) = 5 + (n : Int) / 4 := by
  rw [wdiv_i64 (by omega) (by omega) (by omega), wi64 (by omega) (by omega), wu8 (by omega) (by omega)]
theorem hi16 {n : Int} (h : 0 ≤ n ∧ n ≤ 65535) : IntKind.u8.wrap (bshr .u16 n 8) = IntKind.u8.wrap (bshr .u32 (IntKind.u32.wrap n) 8) := by
  rw [wu32 (by omega) (by omega), shr_nn h.1, shr_nn h.1]
  rfl
theorem lo16 {n : Int} (h : 0 ≤ n ∧ n ≤ 65535) : IntKind.u8.wrap n = IntKind.u8.wrap (bshr .u32 (IntKind.u32.wrap n) 0) := by
  rw [wu32 (by omega) (by omega), shr_nn h.1]
  simp
theorem rawS_set (h : Hd) (xs : List Opt) (d : ByteArray) {n : Int} (hn : 0 ≤ n ∧ n ≤ 65535) : ((rawS h xs d 0).set 16 (IntKind.u8.wrap (bshr .u16 n 8))).set 17 (IntKind.u8.wrap n) = rawS h xs d n := by
  rw [hi16 hn, lo16 hn]
  unfold rawS
  rw [List.append_assoc, List.append_assoc]
  rfl
end Go.Proofs.YtjgpdbkkpomhjaaX
