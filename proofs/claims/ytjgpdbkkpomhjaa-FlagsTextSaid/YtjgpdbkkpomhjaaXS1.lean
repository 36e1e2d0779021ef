/- The checksum of bytes, as plain numbers; conditions: none. -/
import Derived.Test.YtjgpdbkkpomhjaaX4
namespace Go.Proofs.YtjgpdbkkpomhjaaX
/-- The sum of words, from a half word on or not. -/
def wsum : Bool → List Int → Int
  | _, [] => 0
  | false, c :: l => c * 256 + wsum true l
  | true, c :: l => c + wsum false l
/-- Gone round till it is a word. -/
def fold16 (n : Int) : Int := if n = 0 then 0 else (n - 1) % 65535 + 1
def cks (l : List Int) : Int := 65535 - fold16 (wsum false l)
def isBytes (l : List Int) : Prop := ∀ x ∈ l, 0 ≤ x ∧ x ≤ 255
theorem wsum_bounds : ∀ (l : List Int) (o : Bool), isBytes l → 0 ≤ wsum o l ∧ wsum o l ≤ 65280 * (l.length : Int)
  | [], o, _ => by cases o <;> simp [wsum]
  | c :: l, o, h => by
    have hc := h c List.mem_cons_self
    have hl : isBytes l := fun x hx => h x (List.mem_cons_of_mem _ hx)
    cases o <;> simp only [wsum, List.length_cons, Int.natCast_add, Int.natCast_one] <;> have := wsum_bounds l true hl <;> have := wsum_bounds l false hl <;> omega
theorem fold16_small {n : Int} (h0 : 0 ≤ n) (h : n ≤ 65535) : fold16 n = n := by unfold fold16; split <;> omega
theorem fold16_step {n : Int} (h : 65536 ≤ n) : fold16 (n % 65536 + n / 65536) = fold16 n := by
  unfold fold16
  rw [if_neg (by omega), if_neg (by omega)]
  omega
theorem fold16_bounds {n : Int} (_h : 0 ≤ n) : 0 ≤ fold16 n ∧ fold16 n ≤ 65535 := by unfold fold16; split <;> omega
theorem cks_bounds {l : List Int} (h : isBytes l) : 0 ≤ cks l ∧ cks l ≤ 65535 := by
  have := fold16_bounds (wsum_bounds l false h).1
  unfold cks; omega
theorem band_low16 {s : Int} (h0 : 0 ≤ s) (h1 : s < 18446744073709551616) : band .u64 s 65535 = s % 65536 := by
  have := band_low (k := .u64) (m := 16) rfl h0 (by simpa [IntKind.bits] using h1) (by decide)
  simpa using this
theorem bxor_16 {s : Int} (h0 : 0 ≤ s) (h1 : s ≤ 65535) : bxor .u16 65535 s = 65535 - s := by
  obtain ⟨n, rfl⟩ := Int.eq_ofNat_of_zero_le h0
  have hn : n ≤ 65535 := by omega
  have := bxor_nat (k := .u16) (a := 65535) (b := n) rfl (by decide) (by simp only [IntKind.bits]; omega)
  rw [show ((65535 : Nat) : Int) = 65535 from rfl] at this
  rw [this]
  have e : 65535 ^^^ n = 65535 - n := by
    have h2 : (BitVec.allOnes 16 ^^^ BitVec.ofNat 16 n).toNat = 65535 - n := by
      rw [BitVec.allOnes_xor, BitVec.toNat_not, BitVec.toNat_ofNat]
      omega
    rw [BitVec.toNat_xor, BitVec.toNat_ofNat, BitVec.toNat_allOnes, Nat.mod_eq_of_lt (by omega)] at h2
    exact h2
  rw [e]
  omega
theorem wsum_drop {l : List Int} {j : Nat} (h : j < l.length) (o : Bool) (rest : List Int) : wsum o (l.drop j ++ rest) = (if o then l.getD j 0 else l.getD j 0 * 256) + wsum (!o) (l.drop (j + 1) ++ rest) := by
  rw [List.drop_eq_getElem_cons h]
  have e : l.getD j 0 = l[j] := by simp [List.getD, h]
  rw [e]
  cases o <;> rfl
theorem flat_drop {ps : List (List Int)} {i : Nat} (h : i < ps.length) : (ps.drop i).flatten = ps.getD i [] ++ (ps.drop (i + 1)).flatten := by
  rw [List.drop_eq_getElem_cons h]
  have e : ps.getD i [] = ps[i] := by simp [List.getD, h]
  rw [e]
  rfl
theorem bytes_flat {ps : List (List Int)} (h : ∀ p ∈ ps, isBytes p) : isBytes ps.flatten := fun x hx => by
  obtain ⟨p, hp, hx⟩ := List.mem_flatten.mp hx
  exact h p hp x hx
theorem bytes_rest {ps : List (List Int)} (h : ∀ p ∈ ps, isBytes p) (i j : Nat) (hi : i < ps.length) : isBytes ((ps.getD i []).drop j ++ (ps.drop (i + 1)).flatten) := fun x hx => by
  rcases List.mem_append.1 hx with hx | hx
  · have e : ps.getD i [] = ps[i] := by simp [List.getD, hi]
    rw [e] at hx
    exact h _ (List.getElem_mem hi) x (List.mem_of_mem_drop hx)
  · obtain ⟨p, hp, hx⟩ := List.mem_flatten.mp hx
    exact h p (List.mem_of_mem_drop hp) x hx
theorem rows_bytes {ps : List (List Int)} {G : Mem} {A : Option Addr} (h : rowAt (D.slice (D.int .u8)) G A ps) : ∀ p ∈ ps, isBytes p := fun p hp => by
  obtain ⟨i, hi, rfl⟩ := List.getElem_of_mem hp
  obtain ⟨ad, cs, _, ⟨B, c, _, _, _, h4⟩, _⟩ := h i hi
  exact fun x hx => int_range h4 x hx
theorem wsum_at {l : List Int} {j : Nat} (h : j < l.length) (o : Bool) : wsum o (l.drop j) = (if o then l.getD j 0 else l.getD j 0 * 256) + wsum (!o) (l.drop (j + 1)) := by
  have := wsum_drop h o []
  simpa using this
theorem wsum_end {l : List Int} {j : Nat} (h : l.length ≤ j) (o : Bool) : wsum o (l.drop j) = 0 := by
  rw [List.drop_eq_nil_of_le h]
  cases o <;> rfl
theorem fold16_sub {n : Int} (h : 65536 ≤ n) : fold16 (n - 65536 + 1) = fold16 n := by
  unfold fold16
  rw [if_neg (by omega), if_neg (by omega)]
  omega
theorem bytes_drop {l : List Int} (h : isBytes l) (j : Nat) : isBytes (l.drop j) := fun x hx => h x (List.mem_of_mem_drop hx)
theorem row_bytes {l : List Int} {G : Mem} {A : Option Addr} (h : rowAt (D.int .u8) G A l) : isBytes l := fun x hx => int_range h x hx
theorem wsum_le {l : List Int} (h : isBytes l) (n : Nat) (hn : l.length ≤ n) : wsum false l ≤ 65280 * (n : Int) := by
  have := (wsum_bounds l false h).2
  omega
end Go.Proofs.YtjgpdbkkpomhjaaX
