/- Options made fewer, weighed and printed: words and plain laws. Conditions: none. -/
import Derived.Test.YtjgpdbkkpomhjaaXO5
namespace Go.Proofs.YtjgpdbkkpomhjaaX
open Go.RowKit
set_option linter.unusedVariables false
set_option linter.unusedSimpArgs false
section
variable {C : Ctx} {k : List CK} {s : S} {G : Mem} {R : List (Nat × Row)}
theorem rowNone2 {G : Mem} {R : List (Nat × Row)} {i n c : Nat} {q : Row} {A : Option Addr} (hq : lk R i = some q) (hv : q.v = .slice A n c) (w : World) (hw : Mm G R w) (e : A = none) : n = 0 ∧ c = 0 := by
  subst e
  have h := hw.2 i q hq
  rw [hv] at h
  rcases h.2 with ⟨h1, _⟩ | ⟨g, cap, cur, h1, _⟩
  · injection h1 with _ h2 h3
    exact ⟨h2, h3⟩
  · cases h1
/-- A row of the own that is only read from now on. -/
theorem X.freezeD {α : Type} {d : D α} {cur : Cur} {i n c : Nat} {q : Row} {A : Option Addr} (xs : List α) (hqv : q.v = .slice A n c) (hr : repsD d G xs q.cells) (hd : 0 < d.sz) (hn : R.all (fun p => p.1 != i) = true) (hM : ∀ x, ¬ C.M.can x)
    (H : ∀ G', Ge G C.w0.heap.size G' → rowAt d G' A xs → X C cur k s R G') : X C cur k s ((i, q) :: R) G := by
  refine X.freeze (i := i) (q := q) (R' := R) (by rw [lk_cons, if_pos rfl]) hqv (fun j p hj => ?_) (fun G' hG hc => H G' hG ?_) hM
  · have hne : j ≠ i := by
      have := List.all_eq_true.mp hn _ (lk_mem hj)
      simpa using this
    exact ⟨hne, by rw [lk_cons, if_neg (Ne.symm hne)]; exact hj⟩
  · exact rowAt_of_cells (hr.mono hG.le) hd hc
end
def cutO (o : Opt) : Opt := (o.1, o.2.1.take 12, o.2.2.extract 0 60)
def fewO (xs : List Opt) : List Opt := (xs.take 12).map cutO
theorem fewO_len (xs : List Opt) : (fewO xs).length ≤ 12 := by simp only [fewO, List.length_map, List.length_take]; omega
theorem fewO_small (xs : List Opt) : ∀ o ∈ fewO xs, o.2.1.length ≤ 12 ∧ o.2.2.size ≤ 60 := by
  intro o ho
  obtain ⟨p, _, rfl⟩ := List.mem_map.mp ho
  refine ⟨by simp only [cutO, List.length_take]; omega, by simp only [cutO, ByteArray.size_extract]; omega⟩
theorem few_nums (l : List Int) : (l.take (min (l.length : Int) 12).toNat).drop 0 = l.take 12 := by
  rw [List.drop_zero]
  by_cases h : l.length ≤ 12
  · rw [List.take_of_length_le h, List.take_of_length_le (by omega)]
  · rw [show (min (l.length : Int) 12).toNat = 12 by omega]
theorem few_raw (b : ByteArray) : b.extract 0 (min (b.size : Int) 60).toNat = b.extract 0 60 := by
  by_cases h : b.size ≤ 60
  · apply ByteArray.ext
    simp only [ByteArray.data_extract]
    rw [show (min (b.size : Int) 60).toNat = b.data.size by simp only [ByteArray.size] at *; omega]
    simp only [ByteArray.size] at h
    rw [Array.extract_eq_self_of_le (Nat.le_refl _), Array.extract_eq_self_of_le h]
  · rw [show (min (b.size : Int) 60).toNat = 60 by omega]
theorem take_step {xs : List Opt} {i : Nat} (h : i < xs.length) : xs.take (i + 1) = xs.take i ++ [xs.getD i opt0] := by
  rw [List.take_succ_eq_append_getElem h]
  simp [h]
theorem drop_step {xs : List Opt} {i : Nat} (h : i < xs.length) : xs.drop i = xs.getD i opt0 :: xs.drop (i + 1) := by
  rw [List.drop_eq_getElem_cons h]
  simp [h]
theorem few_step {xs : List Opt} {i : Nat} (h : i < xs.length) : (xs.take (i + 1)).map cutO = (xs.take i).map cutO ++ [cutO (xs.getD i opt0)] := by
  rw [take_step h, List.map_append]
  rfl
theorem few_all {xs : List Opt} {i : Nat} (h0 : i ≤ xs.length) (h1 : i ≤ 12) (h2 : xs.length ≤ i ∨ 12 ≤ i) : (xs.take i).map cutO = fewO xs := by
  unfold fewO
  rcases h2 with h | h
  · rw [List.take_of_length_le h, List.take_of_length_le (by omega)]
  · rw [show i = 12 by omega]
def optLen (o : Opt) : Int := 2 + (o.2.1.length : Int) * szk o.1 + (o.2.2.size : Int)
def sumO : List Opt → Int
  | [] => 0
  | o :: l => optLen o + sumO l
theorem szk_nn (k : Int) : 0 ≤ szk k ∧ szk k ≤ 4 := by
  unfold szk
  (repeat' split) <;> omega
theorem optLen_nn (o : Opt) : 2 ≤ optLen o := by
  have := Int.mul_nonneg (Int.natCast_nonneg o.2.1.length) (szk_nn o.1).1
  unfold optLen
  omega
theorem sumO_nn : ∀ l : List Opt, 0 ≤ sumO l
  | [] => Int.le_refl 0
  | o :: l => by
    have := sumO_nn l
    have := optLen_nn o
    unfold sumO
    omega
theorem sumO_app (a b : List Opt) : sumO (a ++ b) = sumO a + sumO b := by
  induction a with
  | nil => simp [sumO]
  | cons o l ih => simp only [List.cons_append, sumO, ih]; omega
theorem sumO_step {xs : List Opt} {i : Nat} (h : i < xs.length) : sumO (xs.take (i + 1)) = sumO (xs.take i) + optLen (xs.getD i opt0) := by
  rw [take_step h, sumO_app]
  simp [sumO]
theorem sumO_le (xs : List Opt) (i : Nat) : sumO (xs.take i) ≤ sumO xs := by
  have h : sumO xs = sumO (xs.take i) + sumO (xs.drop i) := by rw [← sumO_app, List.take_append_drop]
  have := sumO_nn (xs.drop i)
  omega
theorem fine_prod {o : Opt} (h : fineB o = true) : 0 ≤ (o.2.1.length : Int) * szk o.1 ∧ (o.2.1.length : Int) * szk o.1 ≤ 12 ∧ o.2.1.length ≤ 3 ∧ 2 ≤ o.1 ∧ o.1 ≤ 255 ∧ (szk o.1 = 0 → o.2.1.length = 0) := by
  have h4 := szk_nn o.1
  have hm : mk2 o.1 ≤ 3 := by unfold mk2; (repeat' split) <;> omega
  unfold fineB at h
  simp only [Bool.and_eq_true, decide_eq_true_eq] at h
  have hl : o.2.1.length ≤ 3 ∧ (szk o.1 = 0 → o.2.1.length = 0) := by
    by_cases h0 : szk o.1 = 0
    · have h2 := h.2
      rw [if_pos h0] at h2
      have h2 := of_decide_eq_true h2
      exact ⟨by omega, fun _ => h2⟩
    · have h2 := h.2
      rw [if_neg h0] at h2
      simp only [Bool.and_eq_true, decide_eq_true_eq] at h2
      exact ⟨by omega, fun h => absurd h h0⟩
  refine ⟨Int.mul_nonneg (Int.natCast_nonneg _) h4.1, ?_, hl.1, h.1.1, h.1.2, hl.2⟩
  have := Int.mul_le_mul (show (o.2.1.length : Int) ≤ 3 by omega) h4.2 h4.1 (show (0 : Int) ≤ 3 by decide)
  omega
/-- What the first options that may not be answer. -/
def chk : List Opt → List Opt → Int
  | _, [] => 0
  | p, o :: l => if fineB o = true then (if hadB p o.1 = true then 5 else chk (p ++ [o]) l) else 2
theorem chk_step {xs : List Opt} {i : Nat} (hi : i < xs.length) (h1 : fineB (xs.getD i opt0) = true) (h2 : hadB (xs.take i) (xs.getD i opt0).1 = false) : chk (xs.take (i + 1)) (xs.drop (i + 1)) = chk (xs.take i) (xs.drop i) := by
  rw [drop_step hi, chk, if_pos h1, if_neg (by rw [h2]; decide), take_step hi]
theorem chk_bad {xs : List Opt} {i : Nat} (hi : i < xs.length) (h1 : fineB (xs.getD i opt0) = false) : chk (xs.take i) (xs.drop i) = 2 := by
  rw [drop_step hi, chk, if_neg (by rw [h1]; decide)]
theorem chk_had {xs : List Opt} {i : Nat} (hi : i < xs.length) (h1 : fineB (xs.getD i opt0) = true) (h2 : hadB (xs.take i) (xs.getD i opt0).1 = true) : chk (xs.take i) (xs.drop i) = 5 := by
  rw [drop_step hi, chk, if_pos h1, if_pos h2]
theorem chk_nil {xs : List Opt} {i : Nat} (hi : xs.length ≤ i) : chk (xs.take i) (xs.drop i) = 0 := by
  rw [List.drop_of_length_le hi]
  rfl
theorem chk_all : ∀ {l p : List Opt}, chk p l = 0 → ∀ o ∈ l, fineB o = true
  | [], p, _, o, ho => by cases ho
  | x :: l, p, h, o, ho => by
    unfold chk at h
    by_cases h1 : fineB x = true
    · rw [if_pos h1] at h
      by_cases h2 : hadB p x.1 = true
      · rw [if_pos h2] at h; exact absurd h (by decide)
      · rw [if_neg h2] at h
        rcases List.mem_cons.mp ho with rfl | ho
        · exact h1
        · exact chk_all h o ho
    · rw [if_neg h1] at h; exact absurd h (by decide)
def errO (xs : List Opt) : Int := if chk [] xs ≠ 0 then chk [] xs else if 40 < sumO xs then 4 else 0
theorem errO_chk {xs : List Opt} {e : Int} (h : chk [] xs = e) (he : e ≠ 0) : errO xs = e := by
  unfold errO
  rw [h, if_pos he]
theorem errO_long {xs : List Opt} (h : chk [] xs = 0) (he : 40 < sumO xs) : errO xs = 4 := by
  unfold errO
  rw [h, if_neg (by decide), if_pos he]
theorem errO_ok {xs : List Opt} (h : chk [] xs = 0) (he : ¬ 40 < sumO xs) : errO xs = 0 := by
  unfold errO
  rw [h, if_neg (by decide), if_neg he]
/-- A number's bytes, the great ones first. -/
def be : Int → Nat → List Int
  | _, 0 => []
  | n, q + 1 => be (n / 256) q ++ [n % 256]
theorem be_len : ∀ (n : Int) (q : Nat), (be n q).length = q
  | _, 0 => rfl
  | n, q + 1 => by simp [be, be_len (n / 256) q]
theorem be_range : ∀ (q : Nat) (n : Int), ∀ x ∈ be n q, 0 ≤ x ∧ x ≤ 255
  | 0, n, x, h => by cases h
  | q + 1, n, x, h => by
    simp only [be, List.mem_append, List.mem_singleton] at h
    rcases h with h | rfl
    · exact be_range q _ x h
    · omega
theorem byteSh {n : Int} (h0 : 0 ≤ n) (e : Nat) (he : e ≤ 3) : IntKind.u8.wrap (bshr .u32 n (8 * e)) = n / 256 ^ e % 256 := by
  rw [shr_nn h0, show min (8 * e) IntKind.u32.bits = 8 * e by simp [IntKind.bits]; omega, Int.pow_mul, show ((2 : Int) ^ 8) = 256 by decide]
  rfl
theorem be2 {n : Int} (h : 0 ≤ n) : be n 2 = [IntKind.u8.wrap (bshr .u32 n 8), IntKind.u8.wrap (bshr .u32 n 0)] := by
  have e1 := byteSh h 1 (by decide)
  have e0 := byteSh h 0 (by decide)
  simp only [Nat.mul_one, Nat.mul_zero] at e1 e0
  simp [be, e1, e0]
theorem be3 {n : Int} (h : 0 ≤ n) : be n 3 = [IntKind.u8.wrap (bshr .u32 n 16), IntKind.u8.wrap (bshr .u32 n 8), IntKind.u8.wrap (bshr .u32 n 0)] := by
  have e2 := byteSh h 2 (by decide)
  have e1 := byteSh h 1 (by decide)
  have e0 := byteSh h 0 (by decide)
  simp only [Nat.mul_one, Nat.mul_zero] at e1 e0
  simp [be, e1, e0, show 16 = 8 * 2 from rfl, e2, Int.ediv_ediv_of_nonneg]
theorem be4 {n : Int} (h : 0 ≤ n) : be n 4 = [IntKind.u8.wrap (bshr .u32 n 24), IntKind.u8.wrap (bshr .u32 n 16), IntKind.u8.wrap (bshr .u32 n 8), IntKind.u8.wrap (bshr .u32 n 0)] := by
  have e3 := byteSh h 3 (by decide)
  have e2 := byteSh h 2 (by decide)
  have e1 := byteSh h 1 (by decide)
  have e0 := byteSh h 0 (by decide)
  simp only [Nat.mul_one, Nat.mul_zero] at e1 e0
  simp [be, e1, e0, show 16 = 8 * 2 from rfl, show 24 = 8 * 3 from rfl, e2, e3, Int.ediv_ediv_of_nonneg]
def numsB (k : Int) (ns : List Int) : List Int := ns.flatMap (fun n => be n (szk k).toNat)
theorem numsB_step {k : Int} {ns : List Int} {j : Nat} (h : j < ns.length) : numsB k (ns.take (j + 1)) = numsB k (ns.take j) ++ be (ns.getD j 0) (szk k).toNat := by
  unfold numsB
  rw [List.take_succ_eq_append_getElem h, List.flatMap_append]
  simp [h]
theorem numsB_len (k : Int) (ns : List Int) : ((numsB k ns).length : Int) = (ns.length : Int) * szk k := by
  induction ns with
  | nil => simp [numsB]
  | cons n l ih =>
    have e : (numsB k (n :: l)).length = (szk k).toNat + (numsB k l).length := by simp [numsB, be_len]
    have := (szk_nn k).1
    rw [e, List.length_cons]
    push_cast
    rw [Int.add_mul]
    omega
theorem numsB_range (k : Int) (ns : List Int) : ∀ x ∈ numsB k ns, 0 ≤ x ∧ x ≤ 255 := by
  intro x hx
  obtain ⟨n, _, h⟩ := List.mem_flatMap.mp hx
  exact be_range _ _ x h
def putB (o : Opt) : List Int := o.1 % 256 :: optLen o % 256 :: (numsB o.1 o.2.1 ++ bytesL o.2.2)
theorem putB_len (o : Opt) : ((putB o).length : Int) = optLen o := by
  have := numsB_len o.1 o.2.1
  simp only [putB, List.length_cons, List.length_append, bytesL_length, optLen]
  push_cast
  omega
theorem putB_range (o : Opt) : ∀ x ∈ putB o, 0 ≤ x ∧ x ≤ 255 := by
  intro x hx
  simp only [putB, List.mem_cons, List.mem_append] at hx
  rcases hx with rfl | rfl | h | h
  · omega
  · omega
  · exact numsB_range _ _ x h
  · exact bytesL_range _ x h
def bodyO (xs : List Opt) : List Int := xs.flatMap putB
theorem bodyO_step {xs : List Opt} {i : Nat} (h : i < xs.length) : bodyO (xs.take (i + 1)) = bodyO (xs.take i) ++ putB (xs.getD i opt0) := by
  unfold bodyO
  rw [take_step h, List.flatMap_append]
  simp
theorem bodyO_len (xs : List Opt) : ((bodyO xs).length : Int) = sumO xs := by
  induction xs with
  | nil => rfl
  | cons o l ih =>
    have e : (bodyO (o :: l)).length = (putB o).length + (bodyO l).length := by simp [bodyO]
    have := putB_len o
    rw [e, sumO]
    omega
theorem bodyO_range (xs : List Opt) : ∀ x ∈ bodyO xs, 0 ≤ x ∧ x ≤ 255 := by
  intro x hx
  obtain ⟨o, _, h⟩ := List.mem_flatMap.mp hx
  exact putB_range o x h
/-- Zeros behind, up to a multiple of four. -/
def padZ (l : List Int) : List Int := l ++ List.replicate ((4 - l.length % 4) % 4) 0
theorem padZ_step {l : List Int} (h : l.length % 4 ≠ 0) : padZ (l ++ [0]) = padZ l := by
  unfold padZ
  have e : (4 - l.length % 4) % 4 = (4 - (l ++ [0]).length % 4) % 4 + 1 := by
    rw [List.length_append, List.length_singleton]
    omega
  rw [e, List.replicate_succ, List.append_assoc]
  rfl
theorem padZ_end {l : List Int} (h : l.length % 4 = 0) : padZ l = l := by
  unfold padZ
  rw [h]
  simp
theorem padZ_range {l : List Int} (h : ∀ x ∈ l, 0 ≤ x ∧ x ≤ 255) : ∀ x ∈ padZ l, 0 ≤ x ∧ x ≤ 255 := by
  intro x hx
  unfold padZ at hx
  rcases List.mem_append.mp hx with hx | hx
  · exact h x hx
  · have := List.eq_of_mem_replicate hx
    omega
def printO (xs : List Opt) : List Int := if errO xs = 0 then padZ (bodyO xs) else []
theorem printO_range (xs : List Opt) : ∀ x ∈ printO xs, 0 ≤ x ∧ x ≤ 255 := by
  intro x hx
  unfold printO at hx
  split at hx
  · exact padZ_range (bodyO_range xs) x hx
  · cases hx
theorem printO_no {xs : List Opt} (h : errO xs ≠ 0) : printO xs = [] := by
  unfold printO
  rw [if_neg h]
theorem printO_yes {xs l : List Opt} {b : List Int} (h : errO xs = 0) (hb : padZ b = padZ (bodyO xs)) (hl : b.length % 4 = 0) : printO xs = b := by
  unfold printO
  rw [if_pos h, ← hb, padZ_end hl]
end Go.Proofs.YtjgpdbkkpomhjaaX
