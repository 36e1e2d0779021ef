/- Checksums of parts, and of what was filled in. Conditions: none. -/
import Derived.Test.YtjgpdbkkpomhjaaXA2
namespace Go.Proofs.YtjgpdbkkpomhjaaX
set_option linter.unusedVariables false
set_option linter.unusedSimpArgs false
theorem wsum_cons (o : Bool) (x : Int) (l : List Int) : wsum o (x :: l) = (if o then x else x * 256) + wsum (!o) l := by cases o <;> rfl
theorem wsum_append : ∀ (l1 l2 : List Int) (o : Bool), wsum o (l1 ++ l2) = wsum o l1 + wsum (if l1.length % 2 = 0 then o else !o) l2
  | [], l2, o => by simp [wsum]
  | x :: l, l2, o => by
    rw [List.cons_append, wsum_cons, wsum_cons]
    rw [wsum_append l l2 (!o)]
    have : (if (x :: l).length % 2 = 0 then o else !o) = (if l.length % 2 = 0 then !o else !!o) := by
      rw [List.length_cons]
      by_cases h : l.length % 2 = 0
      · rw [if_pos h, if_neg (by omega)]
      · rw [if_neg h, if_pos (by omega)]; simp
    rw [this]
    omega
theorem wsum_swap {l : List Int} {k : Nat} (hk : k % 2 = 0) (hl : l.length % 2 = 0) (hle : k ≤ l.length) : wsum false (l.drop k ++ l.take k) = wsum false l := by
  have h1 := wsum_append (l.drop k) (l.take k) false
  have h2 := wsum_append (l.take k) (l.drop k) false
  rw [List.take_append_drop] at h2
  rw [if_pos (by rw [List.length_drop]; omega)] at h1
  rw [if_pos (by rw [List.length_take]; omega)] at h2
  omega
theorem wsum_set : ∀ (l : List Int) (o : Bool) (i : Nat) (x : Int), i < l.length → wsum o (l.set i x) = wsum o l + (if (i % 2 = 0) = (o = false) then (x - l.getD i 0) * 256 else (x - l.getD i 0))
  | [], o, i, x, h => by simp at h
  | y :: l, o, 0, x, h => by
    cases o <;> simp [wsum] <;> omega
  | y :: l, o, i + 1, x, h => by
    rw [List.set_cons_succ, wsum_cons, wsum_cons]
    rw [wsum_set l (!o) i x (by simpa using h)]
    have e : (y :: l).getD (i + 1) 0 = l.getD i 0 := by simp [List.getD_eq_getElem?_getD]
    rw [e]
    have hc : ((i + 1) % 2 = 0) ↔ ¬ (i % 2 = 0) := by omega
    by_cases hi : i % 2 = 0
    · have hi' : ¬ ((i + 1) % 2 = 0) := by omega
      cases o <;> simp [hi, hi'] <;> omega
    · have hi' : (i + 1) % 2 = 0 := by omega
      cases o <;> simp [hi, hi'] <;> omega
theorem cks_parts {l : List Int} (k : Nat) (hk : k ≤ l.length) : cks ([(l.take k).drop 0, [], (l.take l.length).drop k]).flatten = cks ([l]).flatten := by
  have : ([(l.take k).drop 0, [], (l.take l.length).drop k]).flatten = ([l] : List (List Int)).flatten := by simp [List.take_append_drop]
  rw [this]
theorem cks_swap {l : List Int} (k : Nat) (h2 : k % 2 = 0) (hl : l.length % 2 = 0) (hk : k ≤ l.length) : cks ([(l.take l.length).drop k, (l.take k).drop 0]).flatten = cks ([l]).flatten := by
  unfold cks
  have e1 : ([(l.take l.length).drop k, (l.take k).drop 0]).flatten = l.drop k ++ l.take k := by simp
  have e2 : ([l] : List (List Int)).flatten = l := by simp
  rw [e1, e2, wsum_swap h2 hl hk]
theorem fold_fill {s : Int} (h : 0 ≤ s) : fold16 (s + (65535 - fold16 s)) = 65535 := by
  unfold fold16
  split <;> split <;> omega
theorem cks_filled {b : List Int} {i : Int} (hb : isBytes b) (h0 : 0 ≤ i) (h2 : i % 2 = 0) (h1 : i + 2 ≤ (b.length : Int)) : cks (filled b i) = 0 := by
  have hz : isBytes ((b.set i.toNat 0).set (i + 1).toNat 0) := bytes_set (bytes_set hb (by omega)) (by omega)
  have hc := cks_bounds hz
  have hi : (i + 1).toNat = i.toNat + 1 := by omega
  have he : i.toNat % 2 = 0 := by omega
  unfold filled
  generalize hzz : (b.set i.toNat 0).set (i + 1).toNat 0 = z at *
  have hlen : z.length = b.length := by rw [← hzz]; simp
  have g0 : z.getD i.toNat 0 = 0 := by
    rw [← hzz, hi, List.getD_eq_getElem?_getD, List.getElem?_set_ne (by omega), List.getElem?_set_self (by omega)]; rfl
  have g1 : z.getD (i.toNat + 1) 0 = 0 := by
    rw [← hzz, hi, List.getD_eq_getElem?_getD, List.getElem?_set_self (by simp; omega)]; rfl
  have gn : ∀ x, (z.set i.toNat x).getD (i.toNat + 1) 0 = 0 := fun x => by
    rw [List.getD_eq_getElem?_getD, List.getElem?_set_ne (by omega), ← List.getD_eq_getElem?_getD]; exact g1
  have hs : IntKind.u8.wrap (bshr .u16 (cks z) 8) = cks z / 256 := by
    rw [shr_nn hc.1, show min 8 IntKind.u16.bits = 8 from rfl]
    exact wu8 (by omega) (by omega)
  have hw : IntKind.u8.wrap (cks z) = cks z % 256 := u8_wrap _
  have e : wsum false ((z.set i.toNat (IntKind.u8.wrap (bshr .u16 (cks z) 8))).set (i + 1).toNat (IntKind.u8.wrap (cks z))) = wsum false z + cks z := by
    rw [hi, wsum_set _ false (i.toNat + 1) _ (by simp; omega), wsum_set _ false i.toNat _ (by omega), gn, g0, hs, hw]
    have q : ¬ ((i.toNat + 1) % 2 = 0) := by omega
    simp only [he, q, if_true, eq_self_iff_true, Bool.false_eq_true]
    simp
    omega
  show 65535 - fold16 _ = 0
  rw [e]
  have hb' := wsum_bounds z false hz
  have := fold_fill (s := wsum false z) hb'.1
  rw [show cks z = 65535 - fold16 (wsum false z) from rfl, this]
  rfl
end Go.Proofs.YtjgpdbkkpomhjaaX
