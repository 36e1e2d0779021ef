/- Segments: what is encoded is decoded; a bit turned is seen. Plain laws. Conditions: none. -/
import Derived.Test.YtjgpdbkkpomhjaaYGX
namespace Go.Proofs.YtjgpdbkkpomhjaaX
open Go.RowKit
set_option linter.unusedVariables false
theorem wsum_raw {h : Hd} {xs : List Opt} {d : ByteArray} {n : Int} (hn : 0 ≤ n ∧ n ≤ 65535) : wsum false (rawS h xs d n) = wsum false (rawS h xs d 0) + n := by
  have hl := rawS_len h xs d 0
  have g16 : (rawS h xs d 0).getD 16 0 = 0 := rfl
  have g17 : ((rawS h xs d 0).set 16 (IntKind.u8.wrap (bshr .u16 n 8))).getD 17 0 = 0 := rfl
  rw [← rawS_set h xs d hn, wsum_set _ _ _ _ (by rw [List.length_set]; omega), wsum_set _ _ _ _ (by omega), g16, g17]
  have e1 : IntKind.u8.wrap (bshr .u16 n 8) = n / 256 := by
    rw [shr_nn hn.1]
    exact wu8 (by show 0 ≤ n / 256; omega) (by show n / 256 ≤ _; omega)
  have e2 : IntKind.u8.wrap n = n % 256 := u8_wrap n
  rw [e1, e2]
  simp
  omega
theorem psd_wsum (a : Ad) (n : Nat) (l : List Int) : wsum false (psd a n ++ l) = wsum false (psd a n) + wsum false l := by
  rw [wsum_append, if_pos (show (psd a n).length % 2 = 0 by simp [psd])]
theorem fold_sum {s : Int} (h : 0 ≤ s) : fold16 (s + (65535 - fold16 s)) = 65535 := by
  unfold fold16
  split <;> split <;> omega
theorem raw_sum {a : Ad} {h : Hd} {xs : List Opt} {d : ByteArray} (ha : a.ok) (hh : h.ok) (h5 : h.s5 ≤ 7) (h6 : h.s6 ≤ 63) : fold16 (wsum false (psd a (20 + (printO xs).length + d.size) ++ rawS h xs d (sumS a h xs d))) = 65535 := by
  have hn := sumS_range ha hh xs d h5 h6
  have h0 := (wsum_bounds (psd a (20 + (printO xs).length + d.size) ++ rawS h xs d 0) false (fun x hx => by
    rcases List.mem_append.1 hx with h1 | h1
    · exact psd_bytes ha _ x h1
    · exact rawS_bytes hh xs d (by omega) h5 h6 x h1)).1
  have e : sumS a h xs d = 65535 - fold16 (wsum false (psd a (20 + (printO xs).length + d.size) ++ rawS h xs d 0)) := rfl
  rw [psd_wsum, wsum_raw hn, ← Int.add_assoc, ← psd_wsum, e]
  exact fold_sum h0
theorem hd_raw {h : Hd} (hh : h.ok) (xs : List Opt) (d : ByteArray) {n : Int} (hn : 0 ≤ n ∧ n ≤ 65535) (h5 : h.s5 ≤ 7) (h6 : h.s6 ≤ 63) : hdOf (rawS h xs d n) = ⟨h.s0, h.s1, h.s2, h.s3, offS xs, h.s5, h.s6, h.s7, n, h.s9⟩ := by
  have ho := offS_range xs
  have e : hdV (hdOf (rawS h xs d n)) = hdV ⟨h.s0, h.s1, h.s2, h.s3, offS xs, h.s5, h.s6, h.s7, n, h.s9⟩ := by
    rw [← dec11_hd]
    unfold rawS
    rw [List.append_assoc]
    exact decEnc _ _ _ _ _ _ _ _ _ _ hh.h0 hh.h1 hh.h2 hh.h3 (by omega) hh.h5 hh.h6 hh.h7 hn hh.h9 ⟨by omega, by omega, h5, h6⟩ _
  generalize hdOf (rawS h xs d n) = z at e
  obtain ⟨z0, z1, z2, z3, z4, z5, z6, z7, z8, z9⟩ := z
  simp [hdV] at e
  obtain ⟨rfl, rfl, rfl, rfl, rfl, rfl, rfl, rfl, rfl, rfl⟩ := e
  rfl
theorem bad_raw {h : Hd} (hh : h.ok) (xs : List Opt) (d : ByteArray) {n : Int} (hn : 0 ≤ n ∧ n ≤ 65535) (h5 : h.s5 ≤ 7) (h6 : h.s6 ≤ 63) : ¬ badH (rawS h xs d n) := by
  have ho := offS_range xs
  unfold rawS
  rw [List.append_assoc]
  exact encFine _ _ _ _ _ _ _ _ _ _ hh.h0 hh.h1 hh.h2 hh.h3 (by omega) hh.h5 hh.h6 hh.h7 hn hh.h9 ⟨by omega, by omega, h5, h6⟩ _
theorem off_raw {h : Hd} (hh : h.ok) (xs : List Opt) (d : ByteArray) {n : Int} (hn : 0 ≤ n ∧ n ≤ 65535) (h5 : h.s5 ≤ 7) (h6 : h.s6 ≤ 63) : offB (rawS h xs d n) = 20 + (printO xs).length := by
  have hp := printO_len xs
  unfold offB
  rw [hd_raw hh xs d hn h5 h6]
  show (4 * offS xs).toNat = _
  unfold offS
  omega
/-- What was encoded is decoded as it was, but for Off and Sum. -/
theorem dec_enc {a : Ad} {h : Hd} {xs : List Opt} {d : ByteArray} (ha : a.ok) (hh : h.ok) (hx : ∀ o ∈ xs, ∀ n ∈ o.2.1, 0 ≤ n) (he : errO xs = 0) (hd : ¬ 65000 < d.size) (h5 : h.s5 ≤ 7) (h6 : h.s6 ≤ 63) :
    decS a (rawS h xs d (sumS a h xs d)) = ((⟨h.s0, h.s1, h.s2, h.s3, offS xs, h.s5, h.s6, h.s7, sumS a h xs d, h.s9⟩, xs, d), 0) := by
  have hn := sumS_range ha hh xs d h5 h6
  have hl := rawS_len h xs d (sumS a h xs d)
  have hp := printO_len xs
  have ho := off_raw hh xs d hn h5 h6
  have hz : (enc11 h.s0 h.s1 h.s2 h.s3 (offS xs) h.s5 h.s6 h.s7 (sumS a h xs d) h.s9 ++ printO xs).length = 20 + (printO xs).length := by rw [List.length_append]; rfl
  have hb : optB (rawS h xs d (sumS a h xs d)) = (xs, 0) := by
    unfold optB
    rw [ho]
    unfold rawS
    rw [List.take_append_of_le_length (by omega), List.take_of_length_le (by omega), List.drop_append_of_le_length (by show 20 ≤ 20; omega), List.drop_of_length_le (by show 20 ≤ 20; omega), List.nil_append]
    exact (print_back he hx).1
  have hdr : (rawS h xs d (sumS a h xs d)).drop (20 + (printO xs).length) = bytesL d := by
    unfold rawS
    rw [List.drop_append_of_le_length (by omega), List.drop_of_length_le (by omega), List.nil_append]
  have hck : cks (psd a (rawS h xs d (sumS a h xs d)).length ++ rawS h xs d (sumS a h xs d)) = 0 := by
    unfold cks
    rw [hl, raw_sum ha hh h5 h6]
    rfl
  rw [decS_fine (by omega) (bad_raw hh xs d hn h5 h6) (by omega) (by omega) hck (by rw [hb]), hb, ho, hdr, strOf_bytesL, hd_raw hh xs d hn h5 h6]
/-- Bytes that do not add up are no segment. -/
theorem dec_bad {a : Ad} {b : List Int} (hck : cks (psd a b.length ++ b) ≠ 0) : (decS a b).1 = seg0 ∧ (decS a b).2 ≠ 0 := by
  unfold decS
  split
  · exact ⟨rfl, by decide⟩
  · split
    · exact ⟨rfl, by decide⟩
    · split
      · exact ⟨rfl, by decide⟩
      · split
        · exact ⟨rfl, by decide⟩
        · exact ⟨rfl, by decide⟩
/-- One bit of what was encoded turned: it does not add up. -/
theorem turn_bad {a : Ad} {b : List Int} {i : Nat} {x e : Int} (ha : a.ok) (hb : isBytes b) (hs : fold16 (wsum false (psd a b.length ++ b)) = 65535) (hi : i < b.length) (hx : 0 ≤ x ∧ x ≤ 255) (he : x - b.getD i 0 = e ∨ b.getD i 0 - x = e) (h1 : 1 ≤ e ∧ e ≤ 128) : cks (psd a (b.set i x).length ++ b.set i x) ≠ 0 := by
  have h0 := (wsum_bounds (psd a b.length ++ b) false (fun y hy => by
    rcases List.mem_append.1 hy with h2 | h2
    · exact psd_bytes ha _ y h2
    · exact hb y h2)).1
  have h3 := (wsum_bounds (psd a b.length ++ b.set i x) false (fun y hy => by
    rcases List.mem_append.1 hy with h2 | h2
    · exact psd_bytes ha _ y h2
    · rcases List.mem_or_eq_of_mem_set h2 with h4 | h4
      · exact hb y h4
      · subst h4; exact hx)).1
  have e1 : wsum false (psd a b.length ++ b.set i x) = wsum false (psd a b.length ++ b) + (if (i % 2 = 0) = (false = false) then (x - b.getD i 0) * 256 else (x - b.getD i 0)) := by
    rw [psd_wsum, psd_wsum, wsum_set _ _ _ _ hi]
    omega
  rw [List.length_set]
  unfold cks
  generalize wsum false (psd a b.length ++ b) = S at *
  generalize wsum false (psd a b.length ++ b.set i x) = T at *
  intro hz
  unfold fold16 at hs hz
  by_cases hp : i % 2 = 0
  · simp only [hp, if_true] at e1
    split at hs <;> split at hz <;> omega
  · simp only [hp, eq_self, if_false, eq_iff_iff, iff_true] at e1
    split at hs <;> split at hz <;> omega
theorem encS_nil {a : Ad} {h : Hd} {xs : List Opt} {d : ByteArray} (he : (encS a h xs d).2 ≠ 0) : (encS a h xs d).1 = [] := by
  unfold encS at he ⊢
  split
  · rfl
  · split
    · rfl
    · split
      · rename_i h1 h2 h3
        rw [if_neg h1, if_neg h2, if_pos h3] at he
        exact absurd rfl he
      · rfl
theorem encS_zero {a : Ad} {h : Hd} {xs : List Opt} {d : ByteArray} (he : (encS a h xs d).2 = 0) : errO xs = 0 ∧ ¬ 65000 < d.size ∧ (h.s5 ≤ 7 ∧ h.s6 ≤ 63) ∧ encS a h xs d = (rawS h xs d (sumS a h xs d), 0) := by
  by_cases h1 : errO xs = 0
  · by_cases h2 : 65000 < d.size
    · rw [encS_long h1 h2] at he
      exact absurd he (by decide)
    · by_cases h3 : h.s5 ≤ 7 ∧ h.s6 ≤ 63
      · exact ⟨h1, h2, h3, encS_fine h1 h2 h3⟩
      · rw [encS_form h1 h2 h3] at he
        exact absurd he (by decide)
  · rw [encS_err h1] at he
    exact absurd he h1
theorem encS_bytes {a : Ad} {h : Hd} {xs : List Opt} {d : ByteArray} (ha : a.ok) (hh : h.ok) : isBytes (encS a h xs d).1 := by
  by_cases he : (encS a h xs d).2 = 0
  · obtain ⟨_, _, ⟨h5, h6⟩, e⟩ := encS_zero he
    rw [e]
    exact rawS_bytes hh xs d (sumS_range ha hh xs d h5 h6) h5 h6
  · rw [encS_nil he]
    intro x hx
    simp at hx
theorem adOk {a : Ad} (h : (0 ≤ a.a0 ∧ a.a0 ≤ 255) ∧ (0 ≤ a.a1 ∧ a.a1 ≤ 255) ∧ (0 ≤ a.a2 ∧ a.a2 ≤ 255) ∧ (0 ≤ a.a3 ∧ a.a3 ≤ 255) ∧ (0 ≤ a.b0 ∧ a.b0 ≤ 255) ∧ (0 ≤ a.b1 ∧ a.b1 ≤ 255) ∧ (0 ≤ a.b2 ∧ a.b2 ≤ 255) ∧ (0 ≤ a.b3 ∧ a.b3 ≤ 255)) : a.ok := h
/-- The example. -/
def exA : Ad := ⟨1, 0, 0, 0, 2, 0, 0, 0⟩
def ex0 : Ad := ⟨0, 0, 0, 0, 0, 0, 0, 0⟩
theorem exA_ok : exA.ok := by unfold Ad.ok exA; decide
theorem ex0_ok : ex0.ok := by unfold Ad.ok ex0; decide
theorem hd0_ok : hd0.ok := ⟨by decide, by decide, by decide, by decide, by decide, by decide, by decide, by decide, by decide, by decide⟩
def exD : ByteArray := ⟨#[97]⟩
theorem ex_enc : encS exA hd0 [] exD = (rawS hd0 [] exD (sumS exA hd0 [] exD), 0) := encS_fine rfl (by decide) (by decide)
theorem ex_dec : decS exA (rawS hd0 [] exD (sumS exA hd0 [] exD)) = ((⟨0, 0, 0, 0, offS [], 0, 0, 0, sumS exA hd0 [] exD, 0⟩, [], exD), 0) := dec_enc exA_ok hd0_ok (by simp) rfl (by decide) (by decide) (by decide)
end Go.Proofs.YtjgpdbkkpomhjaaX
