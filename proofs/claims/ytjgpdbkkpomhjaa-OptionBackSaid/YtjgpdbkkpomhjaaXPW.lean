/- Bytes parsed into options: words and plain laws. Conditions: none. -/
import Derived.Test.YtjgpdbkkpomhjaaXNW
import Derived.Test.YtjgpdbkkpomhjaaXO6
namespace Go.Proofs.YtjgpdbkkpomhjaaX
open Go.RowKit
set_option linter.unusedVariables false
/-- The first option's kind and length, as the bytes tell them. -/
def okP (k : Int) (m : Nat) : Bool := decide (szk k = 0) || decide ((m : Int) % szk k = 0 ∧ lk2 k ≤ (m : Int) / szk k ∧ (m : Int) / szk k ≤ mk2 k)
def oneE (l : List Int) : Int := if l.length < 2 then 3 else if l.getD 1 0 < 2 then 5 else if (l.length : Int) < l.getD 1 0 then 3 else if okP (l.getD 0 0) ((l.getD 1 0).toNat - 2) = true then 0 else 5
def oneN (l : List Int) : Int := if oneE l = 0 then l.getD 1 0 else 0
def inB (l : List Int) : List Int := (l.take (l.getD 1 0).toNat).drop 2
def optS (k : Int) (b : List Int) : Opt := if szk k = 0 then (k, [], strOf b) else (k, numsOf b (szk k).toNat (b.length / (szk k).toNat), ⟨#[]⟩)
def oneO (l : List Int) : Opt := if oneE l = 0 then optS (l.getD 0 0) (inB l) else (l.getD 0 0, [], ⟨#[]⟩)
def parseO : List Opt → List Int → List Opt × Int
  | acc, [] => (acc, 0)
  | acc, c :: r => if c = 0 then (if ∃ x ∈ r, x ≠ 0 then ([], 5) else (acc, 0)) else if c = 1 then parseO acc r else if oneE (c :: r) ≠ 0 then ([], oneE (c :: r)) else if hadB acc c = true then ([], 5) else parseO (acc ++ [oneO (c :: r)]) (r.drop ((oneN (c :: r)).toNat - 1))
termination_by _ l => l.length
decreasing_by
  · simp
  · simp only [List.length_cons, List.length_drop]; omega
def optP (l : List Int) : List Opt × Int := if 40 < l.length then ([], 4) else parseO [] l
theorem cons_of {l : List Int} (h : 0 < l.length) : l = l.getD 0 0 :: l.drop 1 := by
  cases l with
  | nil => simp at h
  | cons c r => simp
theorem parse_nil {acc : List Opt} {l : List Int} (h : l.length = 0) : parseO acc l = (acc, 0) := by
  rw [List.eq_nil_of_length_eq_zero h, parseO]
theorem parse_bad {acc : List Opt} {l : List Int} {i : Nat} (h : 0 < l.length) (h0 : l.getD 0 0 = 0) (hi : i < l.length) (hx : l.getD i 0 ≠ 0) : parseO acc l = ([], 5) := by
  cases l with
  | nil => simp at h
  | cons c r =>
    have h0 : c = 0 := h0
    cases i with
    | zero => exact absurd h0 hx
    | succ i =>
      rw [parseO, if_pos h0, if_pos ⟨r.getD i 0, getD_mem (by simpa using hi), hx⟩]
theorem parse_zero {acc : List Opt} {l : List Int} (h : 0 < l.length) (h0 : ∀ x ∈ l, x = 0) : parseO acc l = (acc, 0) := by
  have h1 : l.getD 0 0 = 0 := h0 _ (getD_mem h)
  rw [cons_of h, parseO, if_pos h1, if_neg]
  rintro ⟨x, hx, hn⟩
  exact hn (h0 x (List.mem_of_mem_drop hx))
theorem parse_one {acc : List Opt} {l : List Int} (h : 0 < l.length) (h0 : l.getD 0 0 = 1) : parseO acc l = parseO acc (l.drop 1) := by
  rw [cons_of h, parseO, h0, if_neg (by decide), if_pos rfl]
  simp
theorem parse_err {acc : List Opt} {l : List Int} (h : 0 < l.length) (h0 : l.getD 0 0 ≠ 0) (h1 : l.getD 0 0 ≠ 1) (he : oneE l ≠ 0) : parseO acc l = ([], oneE l) := by
  have e := cons_of h
  rw [e, parseO, if_neg h0, if_neg h1, ← e, if_pos he]
theorem parse_had {acc : List Opt} {l : List Int} (h : 0 < l.length) (h0 : l.getD 0 0 ≠ 0) (h1 : l.getD 0 0 ≠ 1) (he : oneE l = 0) (hh : hadB acc (l.getD 0 0) = true) : parseO acc l = ([], 5) := by
  have e := cons_of h
  rw [e, parseO, if_neg h0, if_neg h1, ← e, if_neg (by rw [he]; decide), if_pos hh]
theorem oneE_ok {l : List Int} (he : oneE l = 0) : 2 ≤ l.length ∧ 2 ≤ l.getD 1 0 ∧ l.getD 1 0 ≤ l.length ∧ okP (l.getD 0 0) ((l.getD 1 0).toNat - 2) = true ∧ oneN l = l.getD 1 0 := by
  have h := he
  unfold oneE at h
  split at h
  · exact absurd h (by decide)
  · split at h
    · exact absurd h (by decide)
    · split at h
      · exact absurd h (by decide)
      · split at h
        · rename_i h1 h2 h3 h4
          exact ⟨by omega, by omega, by omega, h4, by unfold oneN; rw [if_pos he]⟩
        · exact absurd h (by decide)
theorem parse_step {acc : List Opt} {l : List Int} (h : 0 < l.length) (h0 : l.getD 0 0 ≠ 0) (h1 : l.getD 0 0 ≠ 1) (he : oneE l = 0) (hh : hadB acc (l.getD 0 0) = false) : parseO acc l = parseO (acc ++ [oneO l]) (l.drop (oneN l).toNat) := by
  have e := cons_of h
  obtain ⟨_, h2, _, _, h3⟩ := oneE_ok he
  conv => lhs; rw [e, parseO, if_neg h0, if_neg h1, ← e, if_neg (by rw [he]; decide), if_neg (by rw [hh]; decide)]
  rw [List.drop_drop, show 1 + ((oneN l).toNat - 1) = (oneN l).toNat by omega]
theorem optP_long {l : List Int} (h : 40 < l.length) : optP l = ([], 4) := if_pos h
theorem optP_of {l : List Int} (h : ¬ 40 < l.length) : optP l = parseO [] l := if_neg h
theorem oneE_short {l : List Int} (h : l.length < 2) : oneE l = 3 := if_pos h
theorem oneE_small {l : List Int} (h : ¬ l.length < 2) (h1 : l.getD 1 0 < 2) : oneE l = 5 := by rw [oneE, if_neg h, if_pos h1]
theorem oneE_far {l : List Int} (h : ¬ l.length < 2) (h1 : ¬ l.getD 1 0 < 2) (h2 : (l.length : Int) < l.getD 1 0) : oneE l = 3 := by rw [oneE, if_neg h, if_neg h1, if_pos h2]
theorem oneE_form {l : List Int} (h : ¬ l.length < 2) (h1 : ¬ l.getD 1 0 < 2) (h2 : ¬ (l.length : Int) < l.getD 1 0) (h3 : okP (l.getD 0 0) ((l.getD 1 0).toNat - 2) = false) : oneE l = 5 := by rw [oneE, if_neg h, if_neg h1, if_neg h2, if_neg (by rw [h3]; decide)]
theorem oneE_fine {l : List Int} (h : ¬ l.length < 2) (h1 : ¬ l.getD 1 0 < 2) (h2 : ¬ (l.length : Int) < l.getD 1 0) (h3 : okP (l.getD 0 0) ((l.getD 1 0).toNat - 2) = true) : oneE l = 0 := by rw [oneE, if_neg h, if_neg h1, if_neg h2, if_pos h3]
theorem okP_free {k : Int} {m : Nat} (h : szk k = 0) : okP k m = true := by simp [okP, h]
theorem okP_eq {k : Int} {m : Nat} (h : szk k ≠ 0) : okP k m = decide ((m : Int) % szk k = 0 ∧ lk2 k ≤ (m : Int) / szk k ∧ (m : Int) / szk k ≤ mk2 k) := by simp [okP, h]
theorem inB_len {l : List Int} (h : l.getD 1 0 ≤ l.length) : (inB l).length = (l.getD 1 0).toNat - 2 := by
  simp only [inB, List.length_drop, List.length_take]
  omega
theorem strOf_small {l : List Int} (h : l.length ≤ 60) : (strOf l).size ≤ maxLen := by rw [strOf_size]; simp only [maxLen]; omega
/-- The address of a row that is not empty, and of what is cut of it. -/
theorem rowAt_addr {k : IntKind} {G : Mem} {A : Option Addr} {ns : List Int} (h : rowAt (D.int k) G A ns) (hl : 0 < ns.length) : ∃ b off, A = some ⟨b, off, none⟩ := by
  obtain ⟨ad, cs, rfl, ⟨rfl, _, _⟩, h3⟩ := h 0 hl
  have h4 := h3 0 _ rfl
  obtain ⟨b, off, sp⟩ := ad
  cases sp with
  | none => exact ⟨b, off, rfl⟩
  | some x =>
    unfold cellG Addr.add at h4
    split at h4
    · split at h4
      · simp at h4
      · rename_i hs
        exfalso
        apply hs
        simp
    · cases h4
theorem cutA_addr {A : Option Addr} {c lo sz b off : Nat} (h : A = some ⟨b, off, none⟩) : ∃ b' off', cutA A c lo sz = some ⟨b', off', none⟩ := by
  subst h
  unfold cutA
  split
  · exact ⟨_, _, rfl⟩
  · simp [Addr.add]
    split <;> exact ⟨_, _, rfl⟩
end Go.Proofs.YtjgpdbkkpomhjaaX
