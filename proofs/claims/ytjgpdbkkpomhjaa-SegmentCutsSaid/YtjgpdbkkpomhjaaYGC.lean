/- Data cut into segments: words and plain laws. Conditions: none. -/
import Derived.Test.YtjgpdbkkpomhjaaYG5
namespace Go.Proofs.YtjgpdbkkpomhjaaX
open Go.RowKit
set_option linter.unusedVariables false
theorem X.joinCG {C : Ctx} {cur : Cur} {k : List CK} {s : S} {R : List (Nat × Row)} {G : Mem} (cur2 : Cur) (k2 : List CK) (s2 : S) (HJ : ∀ G2, Ge G C.w0.heap.size G2 → X C cur2 k2 s2 R G2) (K : (∀ G2, Ge G C.w0.heap.size G2 → X C cur2 k2 s2 R G2) → X C cur k s R G) : X C cur k s R G := K HJ
theorem X.castS {C : Ctx} {cur : Cur} {k : List CK} {s : S} {R : List (Nat × Row)} {G : Mem} (s' : S) (h : s = s') (H : X C cur k s' R G) : X C cur k s R G := by
  subst h
  exact H
def mssC (m : Int) : Int := max 1 (min m 65000)
/-- A segment's flags: of the first one, of the last one. -/
def flC (f : Int) (fst last : Bool) : Int := f - (if fst = true then 0 else 2 * (f / 2 % 2)) - (if last = true then 0 else f % 2 + 8 * (f / 8 % 2))
theorem fl_bits {f : Int} (hf : 0 ≤ f ∧ f ≤ 255) : bandnot .u8 (bandnot .u8 f 2) 9 = flC f false false ∧ bandnot .u8 f 2 = flC f false true ∧ bandnot .u8 f 9 = flC f true false ∧ f = flC f true true := by
  have := byteAll (p := fun f => decide (bandnot .u8 (bandnot .u8 f 2) 9 = flC f false false ∧ bandnot .u8 f 2 = flC f false true ∧ bandnot .u8 f 9 = flC f true false ∧ f = flC f true true)) (by decide +kernel) hf
  exact of_decide_eq_true this
theorem flC_range {f : Int} (hf : 0 ≤ f ∧ f ≤ 255) (a b : Bool) : 0 ≤ flC f a b ∧ flC f a b ≤ 255 := by
  unfold flC
  cases a <;> cases b <;> simp <;> omega
/-- A segment's number: of the first one, of the others. -/
def sqC (s f p : Int) (fst : Bool) : Int := (s + p + (if fst = true then 0 else f / 2 % 2)) % 4294967296
/-- The segment whose data begin at p. -/
def segI (h : Hd) (d : ByteArray) (m p : Nat) : Hd × ByteArray :=
  (⟨h.s0, h.s1, sqC h.s2 h.s6 p (decide (p = 0)), h.s3, h.s4, h.s5, flC h.s6 (decide (p = 0)) (decide (d.size ≤ p + m)), h.s7, h.s8, h.s9⟩, d.extract p (min (p + m) d.size))
def itL (h : Hd) (d : ByteArray) (m j : Nat) : List (Hd × ByteArray) := (List.range j).map (fun i => segI h d m (i * m))
theorem itL_succ (h : Hd) (d : ByteArray) (m j : Nat) : itL h d m (j + 1) = itL h d m j ++ [segI h d m (j * m)] := by simp [itL, List.range_succ]
theorem itL_len (h : Hd) (d : ByteArray) (m j : Nat) : (itL h d m j).length = j := by simp [itL]
def manyC (d : ByteArray) (m : Nat) : Nat := max 1 ((d.size + m - 1) / m)
theorem many_is {d : ByteArray} {m j : Nat} (hm : 1 ≤ m) (h0 : j = 0 ∨ j * m < d.size) (h1 : d.size ≤ j * m + m) : manyC d m = j + 1 := by
  unfold manyC
  by_cases hz : d.size = 0
  · have : j = 0 := by omega
    subst this
    rw [hz, Nat.div_eq_of_lt (by omega)]
    rfl
  · have h2 : j * m < d.size := by
      rcases h0 with h0 | h0
      · subst h0; omega
      · exact h0
    have e : (d.size + m - 1) / m = j + 1 := by
      refine Nat.div_eq_of_lt_le ?_ ?_
      · rw [Nat.add_mul, Nat.one_mul]; omega
      · rw [Nat.add_mul, Nat.one_mul, Nat.add_mul, Nat.one_mul]; omega
    rw [e]
    omega
theorem many_lt {d : ByteArray} {m j : Nat} (hm : 1 ≤ m) (h : j < manyC d m) : j = 0 ∨ j * m < d.size := by
  by_cases h0 : j = 0
  · exact .inl h0
  · refine .inr ?_
    unfold manyC at h
    have h1 : j < (d.size + m - 1) / m := by omega
    have h2 : (j + 1) * m ≤ d.size + m - 1 := (Nat.le_div_iff_mul_le (by omega)).mp h1
    rw [Nat.add_mul, Nat.one_mul] at h2
    omega
theorem many_last {d : ByteArray} {m j : Nat} (hm : 1 ≤ m) (h : j < manyC d m) : (j + 1 < manyC d m ↔ ¬ d.size ≤ j * m + m) := by
  constructor
  · intro h1 h2
    have := many_is hm (many_lt hm h) h2
    omega
  · intro h1
    rcases Nat.lt_or_ge (j + 1) (manyC d m) with h2 | h2
    · exact h2
    · have e : manyC d m = j + 1 := by omega
      unfold manyC at e
      by_cases h3 : (d.size + m - 1) / m = j + 1
      · have := Nat.div_add_mod (d.size + m - 1) m
        have hlt := Nat.mod_lt (d.size + m - 1) (show 0 < m by omega)
        rw [h3, Nat.mul_add, Nat.mul_one, Nat.mul_comm] at this
        omega
      · have hj : j = 0 := by omega
        subst hj
        have h4 : (d.size + m - 1) / m = 0 := by
          obtain ⟨X, hX⟩ : ∃ X, (d.size + m - 1) / m = X := ⟨_, rfl⟩
          rw [hX] at e h3 ⊢
          omega
        have := (Nat.div_eq_zero_iff).mp h4
        omega
theorem cut_head {d : ByteArray} {p n : Nat} (h : p + n ≤ d.size) : (d.extract p d.size).extract 0 n = d.extract p (p + n) := by
  rw [ByteArray.extract_extract]
  congr 1
  omega
theorem cut_tail {d : ByteArray} {p n : Nat} (h : p + n ≤ d.size) : (d.extract p d.size).extract n (d.extract p d.size).size = d.extract (p + n) d.size := by
  rw [ByteArray.extract_extract, ByteArray.size_extract]
  congr 1
  omega
theorem fl_next {f : Int} (hf : 0 ≤ f ∧ f ≤ 255) (a b : Bool) : flC f a b % 2 + flC f a b / 2 % 2 = (if a = true then f / 2 % 2 else 0) + (if b = true then f % 2 else 0) := by
  unfold flC
  cases a <;> cases b <;> simp <;> omega
theorem fl_tmod {f : Int} (hf : 0 ≤ f ∧ f ≤ 255) : Int.tmod f 2 = f % 2 ∧ Int.tmod (IntKind.u8.wrap (Int.tdiv f 2)) 2 = f / 2 % 2 ∧ Int.tmod (IntKind.u8.wrap (Int.tdiv f 8)) 2 = f / 8 % 2 := by
  have := byteAll (p := fun f => decide (Int.tmod f 2 = f % 2 ∧ Int.tmod (IntKind.u8.wrap (Int.tdiv f 2)) 2 = f / 2 % 2 ∧ Int.tmod (IntKind.u8.wrap (Int.tdiv f 8)) 2 = f / 8 % 2)) (by decide +kernel) hf
  exact of_decide_eq_true this
theorem fl_tt (f : Int) : flC f true true = f := by unfold flC; simp
theorem segI_is {h : Hd} {d : ByteArray} {m p e : Nat} {q FL : Int} {D : ByteArray} {fst last : Bool} (he : e = min (p + m) d.size) (hD : D = d.extract p e) (hf : decide (p = 0) = fst) (hl : decide (d.size ≤ p + m) = last) (hq : q = sqC h.s2 h.s6 p (decide (p = 0))) (hFL : FL = flC h.s6 fst last) : ((⟨h.s0, h.s1, q, h.s3, h.s4, h.s5, FL, h.s7, h.s8, h.s9⟩ : Hd), D) = segI h d m p := by
  subst hD he hf hl hq hFL
  rfl
theorem sq_next {s f p m : Int} {p' : Nat} {L : Int} {fst : Bool} (hp : (p' : Int) = p + m) (h0 : p' ≠ 0) (hL : L = m + (if fst = true then f / 2 % 2 else 0)) : (sqC s f p fst + L) % 4294967296 = sqC s f p' (decide (p' = 0)) := by
  rw [decide_eq_false h0]
  subst hL
  unfold sqC
  cases fst <;> simp <;> omega
/-- A segment's cells: without options. -/
def sgC (x : Hd × ByteArray) : List Value := [.int .u16 x.1.s0, .int .u16 x.1.s1, .int .u32 x.1.s2, .int .u32 x.1.s3, .int .u8 x.1.s4, .int .u8 x.1.s5, .int .u8 x.1.s6, .int .u16 x.1.s7, .int .u16 x.1.s8, .int .u16 x.1.s9, .slice none 0 0, .string x.2]
theorem sgC_len (x : Hd × ByteArray) : (sgC x).length = 12 := rfl
def sg0 : Hd × ByteArray := (hd0, ⟨#[]⟩)
end Go.Proofs.YtjgpdbkkpomhjaaX
