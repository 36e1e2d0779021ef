/- What is parted, marked, turned and joined: what the walk asks. Plain laws. Conditions: none. -/
import Derived.Test.YtjgpdbkkpomhjaaYQ9
import Derived.Test.YtjgpdbkkpomhjaaYQG
namespace Go.Proofs.YtjgpdbkkpomhjaaX
open Go.RowKit
set_option linter.unusedVariables false
theorem tmod_nat {x : Int} {n : Nat} (h : 0 ≤ x) : Int.tmod x (n : Int) = ((x.toNat % n : Nat) : Int) := by
  rw [Int.tmod_eq_emod_of_nonneg h]
  conv => lhs; rw [show x = ((x.toNat : Nat) : Int) by omega]
  exact (Int.natCast_emod _ _).symm
theorem encI_two {h : Ih} {d : ByteArray} (hd : d.size ≤ 300) (h4 : h.x4 < 32768) : (encI h d).2 = 0 := by rw [encI_fine (by omega) (by omega)]
theorem chn_in : ∀ {l : List Pk} {s : Nat}, chn false s l → s + (catD l).length ≤ 300 → ∀ x ∈ l, plI x * 8 + (x.2.size : Int) ≤ 300
  | [], s, h, _ => h.elim
  | [x], s, h, hs => by
    intro y hy
    rw [List.mem_singleton.1 hy]
    have := h.pl
    rw [catD_one, bytesL_length] at hs
    omega
  | x :: z :: l, s, h, hs => by
    intro y hy
    rw [catD_cons, List.length_append, bytesL_length] at hs
    rcases List.mem_cons.1 hy with rfl | hy
    · have := h.1.pl
      omega
    · exact chn_in h.2 (by omega) y hy
theorem ip_first {H : Ih} (h4 : H.x4 = 0) {d : ByteArray} (hd : d.size ≤ 300) {m1 : Int} (hm1 : 28 ≤ m1) : ∀ x ∈ sP (H, d) m1, Hp H x ∧ x.1.x0 = H.x0 ∧ x.1.x4 % 8192 + (x.2.size : Int) / 8 ≤ 8191 := by
  have hH1 : Hp H (H, d) := ⟨by
    show H = tosI (frI H H.x4) H.x0
    rfl, by show 0 ≤ H.x4 ∧ H.x4 < 16384; omega, .inl rfl, hd⟩
  have hl1 : Lnk 0 false (H, d) := ⟨by show H.x4 % 8192 * 8 = _; omega, by show (H.x4 / 8192 % 2 == 1) = false; rw [h4]; rfl, fun h => by cases h⟩
  have hp1 : H.x4 % 8192 + (d.size : Int) / 8 ≤ 8191 := by omega
  have hL := sP_chn hm1 hl1 hp1
  intro x hx
  have h1 := sP_hp (s := 0) (m := false) hm1 hH1 hp1 x hx
  have h2 := chn_in hL.1 (by rw [hL.2, bytesL_length]; show 0 + d.size ≤ 300; omega) x hx
  unfold plI at h2
  exact ⟨h1.1, h1.2, by omega⟩
theorem sP_pos {H : Ih} (h4 : H.x4 = 0) {d : ByteArray} (hd : d.size ≤ 300) {m1 : Int} (hm1 : 28 ≤ m1) : 0 < (sP (H, d) m1).length := by
  have hl1 : Lnk 0 false (H, d) := ⟨by show H.x4 % 8192 * 8 = _; omega, by show (H.x4 / 8192 % 2 == 1) = false; rw [h4]; rfl, fun h => by cases h⟩
  exact (chn_len (sP_chn hm1 hl1 (by show H.x4 % 8192 + (d.size : Int) / 8 ≤ 8191; omega)).1).1
theorem mark_no {H : Ih} (hH : H.ok) {y : Pk} (hy : Hp H y) (h : y.1.x0 % 4 = 0) : markI (encP y) = ([], 7) := markI_kind (h := y.1) (d := y.2) (e := 0) (hy.dec hH) rfl h
theorem mark_yes {H : Ih} (hH : H.ok) {y : Pk} (hy : Hp H y) (h : ¬ y.1.x0 % 4 = 0) : markI (encP y) = (encP (mkP y), 0) := by
  rw [markI_fine (h := y.1) (d := y.2) (e := 0) (hy.dec hH) rfl h]
  exact Prod.ext rfl (encI_two hy.sz (by show y.1.x4 < _; have := hy.lo.2; omega))
/-- All that came of the first i parts. -/
def uptoP (H : Ih) (L : List Pk) (m2 : Int) (k i : Nat) : List Pk := (List.range i).flatMap (grp H L m2 k)
theorem uptoP_succ (H : Ih) (L : List Pk) (m2 : Int) (k i : Nat) : uptoP H L m2 k (i + 1) = uptoP H L m2 k i ++ grp H L m2 k i := by
  unfold uptoP
  rw [List.range_succ, List.flatMap_append]
  simp
theorem uptoP_le {H : Ih} {L : List Pk} {m2 : Int} {k i : Nat} : ∀ {j : Nat}, i ≤ j → (uptoP H L m2 k i).length ≤ (uptoP H L m2 k j).length
  | 0, h => by rw [show i = 0 by omega]; exact Nat.le_refl _
  | j + 1, h => by
    rcases Nat.lt_or_ge j i with h1 | h1
    · rw [show i = j + 1 by omega]; exact Nat.le_refl _
    · rw [uptoP_succ, List.length_append]
      exact Nat.le_trans (uptoP_le h1) (Nat.le_add_right _ _)
theorem grp_len (H : Ih) (L : List Pk) (m2 : Int) (k i : Nat) : (grp H L m2 k i).length = (sP (L.getD i pk0) m2).length := by
  unfold grp
  split
  · unfold lastM; rw [List.length_set]
  · rfl
theorem grp_no {H : Ih} {L : List Pk} {m2 : Int} {k i : Nat} (h : ¬ (i = k ∧ H.x0 % 4 ≠ 0)) : (grp H L m2 k i).map encP = (sP (L.getD i pk0) m2).map encP := by
  unfold grp; rw [if_neg h]
theorem grp_yes {H : Ih} {L : List Pk} {m2 : Int} {k i : Nat} (h : i = k ∧ H.x0 % 4 ≠ 0) : (grp H L m2 k i).map encP = ((sP (L.getD i pk0) m2).map encP).set ((sP (L.getD i pk0) m2).length - 1) (encP (mkP ((sP (L.getD i pk0) m2).getD ((sP (L.getD i pk0) m2).length - 1) pk0))) := by
  unfold grp lastM
  rw [if_pos h, List.map_set]
/-- The header's code behind the first i parts. -/
def tosT (H : Ih) (k i : Nat) : Int := if k < i then toB H else H.x0
theorem tosT_zero (H : Ih) (k : Nat) : H.x0 = tosT H k 0 := by unfold tosT; rw [if_neg (by omega)]
theorem tosT_same {H : Ih} {k i : Nat} (h : ¬ (i = k ∧ H.x0 % 4 ≠ 0)) : tosT H k (i + 1) = tosT H k i := by
  unfold tosT toB
  split <;> split <;> first | rfl | omega | (split <;> first | rfl | omega)
theorem tosT_mark {H : Ih} {k i : Nat} (h : i = k) (h2 : H.x0 % 4 ≠ 0) : tosT H k i = H.x0 ∧ tosT H k (i + 1) = putT H.x0 3 := by
  unfold tosT toB
  rw [if_neg (by omega), if_pos (by omega), if_neg h2]
  exact ⟨rfl, rfl⟩
theorem tosT_all {H : Ih} {k n : Nat} (h : k < n) : tosT H k n = toB H := by unfold tosT; rw [if_pos h]
theorem or3 {x : Int} (h : 0 ≤ x ∧ x ≤ 255) : bor .u8 x 3 = putT x 3 :=
  of_decide_eq_true (byteAll (p := fun x => decide (bor .u8 x 3 = putT x 3)) (by decide +kernel) h)
theorem map_getD {q : List Pk} {i : Nat} (h : i < q.length) : (q.map encP).getD i [] = encP (q.getD i pk0) := by simp [List.getD, h]
theorem turn_map (Q : List Pk) (k : Nat) : (Q.map encP).drop k ++ (Q.map encP).take k = (Q.drop k ++ Q.take k).map encP := by rw [List.map_append, List.map_drop, List.map_take]
end Go.Proofs.YtjgpdbkkpomhjaaX
