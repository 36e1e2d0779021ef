/- Small words for the reckoning's texts: numbers' operations by short names, places of a function's code, elements of rows. Conditions: none. -/
import Derived.Test.YthpinlcfcgnilaaX3
namespace Go.Proofs.YthpinlcfcgnilaaX
open Go.RowKit
set_option linter.unusedVariables false
def band (k : IntKind) (a b : Int) : Int := k.wrap ((BitVec.ofInt k.bits a &&& BitVec.ofInt k.bits b).toNat : Int)
def bor (k : IntKind) (a b : Int) : Int := k.wrap ((BitVec.ofInt k.bits a ||| BitVec.ofInt k.bits b).toNat : Int)
def bxor (k : IntKind) (a b : Int) : Int := k.wrap ((BitVec.ofInt k.bits a ^^^ BitVec.ofInt k.bits b).toNat : Int)
def bandnot (k : IntKind) (a b : Int) : Int := k.wrap ((BitVec.ofInt k.bits a &&& ~~~BitVec.ofInt k.bits b).toNat : Int)
def bshl (k : IntKind) (a : Int) (n : Nat) : Int := k.wrap (a * 2 ^ min n k.bits)
def bshr (k : IntKind) (a : Int) (n : Nat) : Int := a.fdiv (2 ^ min n k.bits)
def imin (x y : Int) : Int := if y < x then y else x
def imax (x y : Int) : Int := if y > x then y else x
def bodyOf (f : Func) : Code := f.body.getD .skip
def cA : Code → List Nat → Code
  | c, [] => c
  | .seq a _, 0 :: p => cA a p
  | .seq _ b, _ :: p => cA b p
  | .cond _ a _, 0 :: p => cA a p
  | .cond _ _ b, _ :: p => cA b p
  | .block _ a, _ :: p => cA a p
  | .loop a, _ :: p => cA a p
  | c, _ => c
def opsC : Code → Array Oper
  | .region _ ops _ => ops
  | _ => #[]
def aA (B : Code) (p : List Nat) : Array Oper := opsC (cA B p)
def oA (B : Code) (p : List Nat) (i : Nat) : Oper := (aA B p).toList.getD i default
def lA (B : Code) (p : List Nat) (i : Nat) : List Oper := (aA B p).toList.drop i
theorem str_inj {a b : ByteArray} : a.data.toList = b.data.toList ↔ a = b :=
  ⟨fun h => ByteArray.ext (Array.toList_inj.mp h), fun h => by rw [h]⟩
theorem rowAt.so {α : Type} {d : D α} {G : Mem} {A : Option Addr} {xs : List α} (h : rowAt d G A xs) (hp : 0 < xs.length) : A.isSome = true := by
  obtain ⟨ad, h1⟩ := h.isSome hp
  rw [h1]; rfl
theorem rowSome {G : Mem} {R : List (Nat × Row)} {i n c : Nat} {q : Row} {A : Option Addr} (hq : lk R i = some q) (hv : q.v = .slice A n c) (hc : 0 < q.cells.length) (w : World) (hw : Mm G R w) : A.isSome = true := by
  have := At.of_row hq hv w hw 0 q.cells[0] (List.getElem?_eq_getElem hc)
  exact this.1
theorem At.part {G : Mem} {R : List (Nat × Row)} {A : Option Addr} {k : Nat} {cs : List Value} (h : At G R A k cs) (o m : Nat) : At G R A (k + o) ((cs.drop o).take m) :=
  h.sub o fun j v hj => by
    rw [List.getElem?_take] at hj
    split at hj
    · rwa [List.getElem?_drop] at hj
    · cases hj
theorem At.int {k : IntKind} {G : Mem} {A : Option Addr} {xs : List Int} (R : List (Nat × Row)) (h : rowAt (D.int k) G A xs) (i : Nat) (hi : i < xs.length) : At G R A (i * 1) [.int k (xs.getD i 0)] ∧ IntKind.lo k ≤ xs.getD i 0 ∧ xs.getD i 0 ≤ IntKind.hi k := by
  obtain ⟨cs, ⟨rfl, h1, h2⟩, h3⟩ := At.of_rowAt R h i hi
  have e : xs.getD i 0 = xs[i] := by simp [List.getD, hi]
  rw [e]
  exact ⟨h3, h1, h2⟩
theorem At.slice {α : Type} {d : D α} {G : Mem} {A : Option Addr} {xs : List (List α)} (R : List (Nat × Row)) (h : rowAt (D.slice d) G A xs) (i : Nat) (hi : i < xs.length) : ∃ B c, At G R A (i * 1) [.slice B (xs.getD i []).length c] ∧ (xs.getD i []).length ≤ c ∧ c ≤ maxLen ∧ rowAt d G B (xs.getD i []) := by
  obtain ⟨cs, ⟨B, c, rfl, h1, h2, h4⟩, h3⟩ := At.of_rowAt R h i hi
  have e : xs.getD i [] = xs[i] := by simp [List.getD, hi]
  rw [e]
  exact ⟨B, c, h3, h1, h2, h4⟩
theorem int_range {k : IntKind} {G : Mem} {A : Option Addr} {xs : List Int} (h : rowAt (D.int k) G A xs) : ∀ x ∈ xs, IntKind.lo k ≤ x ∧ x ≤ IntKind.hi k := fun x hx => by
  obtain ⟨i, hi, rfl⟩ := List.getElem_of_mem hx
  obtain ⟨ad, cs, _, h2, _⟩ := h i hi
  exact h2.2
theorem wrap_id {k : IntKind} {x : Int} (h0 : IntKind.lo k ≤ x) (h1 : x ≤ IntKind.hi k) : k.wrap x = x := by
  cases k <;> simp only [IntKind.lo, IntKind.hi] at h0 h1 <;> simp only [IntKind.wrap, IntKind.bits, IntKind.signed] <;> (first | (simp; omega) | (simp; split <;> omega))
theorem wi64 {x : Int} (h0 : -9223372036854775808 ≤ x) (h1 : x ≤ 9223372036854775807) : IntKind.i64.wrap x = x := wrap_id h0 h1
theorem wu64 {x : Int} (h0 : 0 ≤ x) (h1 : x ≤ 18446744073709551615) : IntKind.u64.wrap x = x := wrap_id h0 h1
theorem wu32 {x : Int} (h0 : 0 ≤ x) (h1 : x ≤ 4294967295) : IntKind.u32.wrap x = x := wrap_id h0 h1
theorem wu16 {x : Int} (h0 : 0 ≤ x) (h1 : x ≤ 65535) : IntKind.u16.wrap x = x := wrap_id h0 h1
theorem wu8 {x : Int} (h0 : 0 ≤ x) (h1 : x ≤ 255) : IntKind.u8.wrap x = x := wrap_id h0 h1
theorem u8_wrap (x : Int) : IntKind.u8.wrap x = x % 256 := by simp [IntKind.wrap, IntKind.bits, IntKind.signed]
theorem u16_wrap (x : Int) : IntKind.u16.wrap x = x % 65536 := by simp [IntKind.wrap, IntKind.bits, IntKind.signed]
theorem u32_wrap (x : Int) : IntKind.u32.wrap x = x % 4294967296 := by simp [IntKind.wrap, IntKind.bits, IntKind.signed]
theorem u64_wrap (x : Int) : IntKind.u64.wrap x = x % 18446744073709551616 := by simp [IntKind.wrap, IntKind.bits, IntKind.signed]
theorem shr_nn {k : IntKind} {a : Int} {n : Nat} (h : 0 ≤ a) : bshr k a n = a / 2 ^ min n k.bits := by
  unfold bshr
  exact Int.fdiv_eq_ediv_of_nonneg _ (Int.pow_nonneg (by decide))
theorem imin_eq (x y : Int) : imin x y = min x y := by unfold imin; omega
theorem imax_eq (x y : Int) : imax x y = max x y := by unfold imax; omega
theorem ofInt_nat {n a : Nat} (h : a < 2 ^ n) : (BitVec.ofInt n (a : Int)).toNat = a := by
  rw [BitVec.toNat_ofInt, show ((a : Int) % ((2 ^ n : Nat) : Int)) = ((a % 2 ^ n : Nat) : Int) from by simp, Int.toNat_natCast, Nat.mod_eq_of_lt h]
def IntKind.uns : IntKind → Bool
  | .u8 | .u16 | .u32 | .u64 => true
  | _ => false
theorem wrap_nat {k : IntKind} {a : Nat} (hk : IntKind.uns k = true) (h : a < 2 ^ k.bits) : k.wrap (a : Int) = (a : Int) := by
  cases k <;> simp only [IntKind.uns, Bool.false_eq_true] at hk <;> simp only [IntKind.bits] at h <;> exact wrap_id (by simp [IntKind.lo]) (by simp only [IntKind.hi]; omega)
theorem band_nat {k : IntKind} {a b : Nat} (hk : IntKind.uns k = true) (ha : a < 2 ^ k.bits) (hb : b < 2 ^ k.bits) : band k (a : Int) (b : Int) = ((a &&& b : Nat) : Int) := by
  unfold band
  rw [BitVec.toNat_and, ofInt_nat ha, ofInt_nat hb, wrap_nat hk (Nat.lt_of_le_of_lt Nat.and_le_left ha)]
theorem bor_nat {k : IntKind} {a b : Nat} (hk : IntKind.uns k = true) (ha : a < 2 ^ k.bits) (hb : b < 2 ^ k.bits) : bor k (a : Int) (b : Int) = ((a ||| b : Nat) : Int) := by
  unfold bor
  rw [BitVec.toNat_or, ofInt_nat ha, ofInt_nat hb, wrap_nat hk (Nat.or_lt_two_pow ha hb)]
theorem bxor_nat {k : IntKind} {a b : Nat} (hk : IntKind.uns k = true) (ha : a < 2 ^ k.bits) (hb : b < 2 ^ k.bits) : bxor k (a : Int) (b : Int) = ((a ^^^ b : Nat) : Int) := by
  unfold bxor
  rw [BitVec.toNat_xor, ofInt_nat ha, ofInt_nat hb, wrap_nat hk (Nat.xor_lt_two_pow ha hb)]
theorem bandnot_nat {k : IntKind} {a b : Nat} (hk : IntKind.uns k = true) (ha : a < 2 ^ k.bits) (hb : b < 2 ^ k.bits) : bandnot k (a : Int) (b : Int) = ((a &&& (2 ^ k.bits - 1 - b) : Nat) : Int) := by
  unfold bandnot
  rw [BitVec.toNat_and, BitVec.toNat_not, ofInt_nat ha, ofInt_nat hb, wrap_nat hk (Nat.lt_of_le_of_lt Nat.and_le_left ha)]
/-- The lowest bits. -/
theorem band_low {k : IntKind} {a : Int} {m : Nat} (hk : IntKind.uns k = true) (h0 : 0 ≤ a) (h1 : a < 2 ^ k.bits) (hm : m ≤ k.bits) : band k a ((2 ^ m - 1 : Nat) : Int) = a % 2 ^ m := by
  obtain ⟨n, rfl⟩ := Int.eq_ofNat_of_zero_le h0
  have hlt : n < 2 ^ k.bits := by exact_mod_cast h1
  have h2 : (2 : Nat) ^ m - 1 < 2 ^ k.bits := Nat.lt_of_lt_of_le (Nat.sub_lt (Nat.two_pow_pos m) Nat.one_pos) (Nat.pow_le_pow_right (by decide) hm)
  rw [band_nat hk hlt h2, Nat.and_two_pow_sub_one_eq_mod]
  simp
theorem wdiv_i64 {x y : Int} (h0 : 0 ≤ x) (h1 : x ≤ 9223372036854775807) (hy : 0 < y) : IntKind.i64.wrap (Int.tdiv x y) = x / y := by
  have h2 := Int.ediv_nonneg h0 (Int.le_of_lt hy)
  have h3 := Int.ediv_le_self y h0
  rw [Int.tdiv_eq_ediv_of_nonneg h0, wi64 (by omega) (by omega)]
theorem wdiv_u64 {x y : Int} (h0 : 0 ≤ x) (h1 : x ≤ 18446744073709551615) (hy : 0 < y) : IntKind.u64.wrap (Int.tdiv x y) = x / y := by
  have h2 := Int.ediv_nonneg h0 (Int.le_of_lt hy)
  have h3 := Int.ediv_le_self y h0
  rw [Int.tdiv_eq_ediv_of_nonneg h0, wu64 (by omega) (by omega)]
theorem wdiv_u32 {x y : Int} (h0 : 0 ≤ x) (h1 : x ≤ 4294967295) (hy : 0 < y) : IntKind.u32.wrap (Int.tdiv x y) = x / y := by
  have h2 := Int.ediv_nonneg h0 (Int.le_of_lt hy)
  have h3 := Int.ediv_le_self y h0
  rw [Int.tdiv_eq_ediv_of_nonneg h0, wu32 (by omega) (by omega)]
theorem wdiv_u16 {x y : Int} (h0 : 0 ≤ x) (h1 : x ≤ 65535) (hy : 0 < y) : IntKind.u16.wrap (Int.tdiv x y) = x / y := by
  have h2 := Int.ediv_nonneg h0 (Int.le_of_lt hy)
  have h3 := Int.ediv_le_self y h0
  rw [Int.tdiv_eq_ediv_of_nonneg h0, wu16 (by omega) (by omega)]
theorem wdiv_u8 {x y : Int} (h0 : 0 ≤ x) (h1 : x ≤ 255) (hy : 0 < y) : IntKind.u8.wrap (Int.tdiv x y) = x / y := by
  have h2 := Int.ediv_nonneg h0 (Int.le_of_lt hy)
  have h3 := Int.ediv_le_self y h0
  rw [Int.tdiv_eq_ediv_of_nonneg h0, wu8 (by omega) (by omega)]
/-- A literal's row, seen as memory that stays. -/
theorem rowLit {α : Type} {d : D α} {G : Mem} {e size n c : Nat} {A : Option Addr} {cs : List Value} {xs : List α} (h : RowG G ⟨e, size, .slice A n c, n, cs⟩) (hr : repsD d G xs cs) (hd : 0 < d.sz) : rowAt d G A xs := rowAt_of_cells hr hd (h A n c rfl)
theorem rep_int {k : IntKind} {G : Mem} {x : Int} (h0 : IntKind.lo k ≤ x) (h1 : x ≤ IntKind.hi k) : (D.int k).rep G x [.int k x] := ⟨rfl, h0, h1⟩
theorem rep_slice {α : Type} {d : D α} {G : Mem} {A : Option Addr} {c : Nat} {xs : List α} (h1 : xs.length ≤ c) (h2 : c ≤ maxLen) (h : rowAt d G A xs) : (D.slice d).rep G xs [.slice A xs.length c] := ⟨A, c, rfl, h1, h2, h⟩
theorem reps_ints {k : IntKind} {G : Mem} : ∀ {xs : List Int}, (∀ x ∈ xs, IntKind.lo k ≤ x ∧ x ≤ IntKind.hi k) → repsD (D.int k) G xs (xs.map (Value.int k))
  | [], _ => rfl
  | x :: r, h => ⟨[.int k x], _, rfl, rep_int (h x List.mem_cons_self).1 (h x List.mem_cons_self).2, reps_ints (fun y hy => h y (List.mem_cons_of_mem _ hy))⟩
theorem at_ints {k : IntKind} {G : Mem} {A : Option Addr} {xs : List Int} (R : List (Nat × Row)) (h : rowAt (D.int k) G A xs) : At G R A 0 (xs.map (Value.int k)) := by
  obtain ⟨cs, h1, h2⟩ := At.all R h
  have : ∀ {xs : List Int} {cs : List Value}, repsD (D.int k) G xs cs → cs = xs.map (Value.int k) := by
    intro xs
    induction xs with
    | nil => intro cs h; exact h
    | cons x r ih =>
      rintro cs ⟨c0, c1, rfl, ⟨rfl, _⟩, h1⟩
      rw [ih h1]; rfl
  rw [this h1] at h2
  exact h2
end Go.Proofs.YthpinlcfcgnilaaX
