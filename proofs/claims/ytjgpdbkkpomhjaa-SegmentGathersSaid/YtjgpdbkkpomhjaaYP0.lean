/- Segments that are gathered: what is told. Plain definitions and laws. Conditions: none. -/
import Derived.Test.YtjgpdbkkpomhjaaYGW
import Derived.Test.YtjgpdbkkpomhjaaYK0
import Derived.Test.YtjgpdbkkpomhjaaYI3
namespace Go.Proofs.YtjgpdbkkpomhjaaX
open Go.RowKit
set_option linter.unusedVariables false
/-- A segment as it lies in memory: its options are not looked at. -/
structure Sg where
  h : Hd
  A : Option Addr
  n : Nat
  c : Nat
  d : ByteArray
def sg1 : Sg := ⟨⟨0, 0, 0, 0, 0, 0, 0, 0, 0, 0⟩, none, 0, 0, ⟨#[]⟩⟩
def sgV (x : Sg) : List Value := [.int .u16 x.h.s0, .int .u16 x.h.s1, .int .u32 x.h.s2, .int .u32 x.h.s3, .int .u8 x.h.s4, .int .u8 x.h.s5, .int .u8 x.h.s6, .int .u16 x.h.s7, .int .u16 x.h.s8, .int .u16 x.h.s9, .slice x.A x.n x.c, .string x.d]
theorem sgV_len (x : Sg) : (sgV x).length = 12 := rfl
theorem sgV_one (x : Sg) : ∀ u ∈ sgV x, u.oneCell' = true := by
  intro u hu
  simp only [sgV, List.mem_cons, List.not_mem_nil, or_false] at hu
  rcases hu with rfl | rfl | rfl | rfl | rfl | rfl | rfl | rfl | rfl | rfl | rfl | rfl <;> rfl
/-- What is known of one. -/
def okG (x : Sg) : Prop := x.h.ok ∧ x.d.size ≤ 100
def sgD : D Sg where
  sz := 12
  rep := fun _ x cs => cs = sgV x
  len := by rintro G x cs rfl; rfl
  one := by rintro G x cs rfl; exact sgV_one x
  mono := fun _ h => h
theorem At.sg {G : Mem} {A : Option Addr} {xs : List Sg} (R : List (Nat × Row)) (h : rowAt sgD G A xs) (i : Nat) (hi : i < xs.length) : At G R A (i * 12) (sgV (xs.getD i sg1)) := by
  obtain ⟨cs, h1, h2⟩ := At.of_rowAt R h i hi
  have h1 : cs = sgV xs[i] := h1
  have e : xs.getD i sg1 = xs[i] := by simp [List.getD, hi]
  rw [e, ← h1]
  exact h2
theorem sgD_reps {G : Mem} : ∀ {xs : List Sg}, repsD sgD G xs (xs.flatMap sgV)
  | [] => rfl
  | x :: r => ⟨sgV x, r.flatMap sgV, rfl, rfl, sgD_reps⟩
theorem sgs_ok {xs : List Sg} (h : ∀ x ∈ xs, okG x) {i : Nat} (hi : i < xs.length) : okG (xs.getD i sg1) := by
  have e : xs.getD i sg1 = xs[i] := by simp [List.getD, hi]
  rw [e]
  exact h _ (List.getElem_mem hi)
/-- The number of a segment's first byte. -/
def begS (x : Sg) : Int := IntKind.u32.wrap (x.h.s2 + x.h.s6 / 2 % 2)
/-- What a segment brings, behind some data, at a number. -/
def pcG (x : Sg) (z : Nat) (n : Int) : ByteArray := if 0 < dif (begS x) n ∨ dif (begS x) n < -1048576 ∨ dif (begS x) n + (x.d.size : Int) ≤ 0 then ⟨#[]⟩ else (x.d.extract (-(dif (begS x) n)).toNat x.d.size).extract 0 (min (x.d.size - (-(dif (begS x) n)).toNat) (1048576 - z))
def stG (d : ByteArray) (n : Int) (x : Sg) : Option (ByteArray × Int) := if (pcG x d.size n).size = 0 then none else some (d ++ pcG x d.size n, IntKind.u32.wrap (n + ((pcG x d.size n).size : Int)))
def stepG (l : List Sg) (d : ByteArray) (n : Int) : Option (ByteArray × Int) := l.findSome? (stG d n)
/-- Gathered whole. -/
inductive Gd (l : List Sg) : ByteArray → Int → ByteArray → Int → Prop
  | stop {d : ByteArray} {n : Int} (h : stepG l d n = none) : Gd l d n d n
  | step {d : ByteArray} {n : Int} {d1 : ByteArray} {n1 : Int} {d2 : ByteArray} {n2 : Int} (h : stepG l d n = some (d1, n1)) (h2 : Gd l d1 n1 d2 n2) : Gd l d n d2 n2
theorem Gd.det {l : List Sg} {d : ByteArray} {n : Int} {d1 : ByteArray} {n1 : Int} (h : Gd l d n d1 n1) : ∀ {d2 : ByteArray} {n2 : Int}, Gd l d n d2 n2 → d1 = d2 ∧ n1 = n2 := by
  induction h with
  | stop h =>
    intro d2 n2 h2
    cases h2 with
    | stop _ => exact ⟨rfl, rfl⟩
    | step h3 _ => rw [h] at h3; cases h3
  | step h _ ih =>
    intro d2 n2 h2
    cases h2 with
    | stop h3 => rw [h] at h3; cases h3
    | step h3 h4 => rw [h] at h3; cases h3; exact ih h4
theorem drop_cons {l : List Sg} {i : Nat} (hi : i < l.length) : l.drop i = l.getD i sg1 :: l.drop (i + 1) := by
  rw [List.drop_eq_getElem_cons hi]
  simp [List.getD, hi]
theorem stepG_skip {l : List Sg} {i : Nat} {d : ByteArray} {n : Int} (hi : i < l.length) (h : (pcG (l.getD i sg1) d.size n).size = 0) : stepG (l.drop i) d n = stepG (l.drop (i + 1)) d n := by
  unfold stepG
  rw [drop_cons hi, List.findSome?_cons]
  simp only [stG, h, if_true]
theorem stepG_take {l : List Sg} {i : Nat} {d : ByteArray} {n : Int} (hi : i < l.length) (h : (pcG (l.getD i sg1) d.size n).size ≠ 0) : stepG (l.drop i) d n = some (d ++ pcG (l.getD i sg1) d.size n, IntKind.u32.wrap (n + ((pcG (l.getD i sg1) d.size n).size : Int))) := by
  unfold stepG
  rw [drop_cons hi, List.findSome?_cons]
  simp only [stG, h, if_false]
theorem stepG_end {l : List Sg} {i : Nat} {d : ByteArray} {n : Int} (hi : l.length ≤ i) : stepG (l.drop i) d n = none := by
  rw [List.drop_eq_nil_of_le hi]
  rfl
theorem pcG_none {x : Sg} {z : Nat} {n : Int} (h : 0 < dif (begS x) n ∨ dif (begS x) n < -1048576 ∨ dif (begS x) n + (x.d.size : Int) ≤ 0) : (pcG x z n).size = 0 := by
  unfold pcG
  rw [if_pos h]
  rfl
theorem pcG_full {x : Sg} {z : Nat} {n : Int} (h : 1048576 ≤ z) : (pcG x z n).size = 0 := by
  unfold pcG
  split
  · rfl
  · rw [ByteArray.size_extract, ByteArray.size_extract]
    omega
theorem pcG_some {x : Sg} {z : Nat} {n : Int} (h0 : dif (begS x) n ≤ 0) (h1 : -1048576 ≤ dif (begS x) n) (h2 : 0 < dif (begS x) n + (x.d.size : Int)) : pcG x z n = (x.d.extract (-(dif (begS x) n)).toNat x.d.size).extract 0 (min (x.d.size - (-(dif (begS x) n)).toNat) (1048576 - z)) := by
  unfold pcG
  rw [if_neg (by omega)]
theorem pcG_size {x : Sg} {z : Nat} {n : Int} (h0 : dif (begS x) n ≤ 0) (h1 : -1048576 ≤ dif (begS x) n) (h2 : 0 < dif (begS x) n + (x.d.size : Int)) : (pcG x z n).size = min (x.d.size - (-(dif (begS x) n)).toNat) (1048576 - z) := by
  rw [pcG_some h0 h1 h2, ByteArray.size_extract, ByteArray.size_extract]
  omega
/-- Gaps: segments that begin behind a number, and not far. -/
def isGap (n : Int) (x : Sg) : Bool := decide (0 < dif (begS x) n ∧ dif (begS x) n ≤ 1048576 ∧ 0 < x.d.size)
def gapsG (l : List Sg) (n : Int) : Nat := (l.filter (isGap n)).length
theorem gaps_step {l : List Sg} {i : Nat} {n : Int} (hi : i < l.length) : gapsG (l.take (i + 1)) n = gapsG (l.take i) n + if isGap n (l.getD i sg1) then 1 else 0 := by
  unfold gapsG
  rw [List.take_succ_eq_append_getElem hi, List.filter_append, List.length_append]
  have e : l.getD i sg1 = l[i] := by simp [List.getD, hi]
  rw [e]
  congr 1
  by_cases h : isGap n l[i] = true <;> simp [h]
theorem gaps_le {l : List Sg} {n : Int} : gapsG l n ≤ l.length := List.length_filter_le _ _
theorem gaps_all {l : List Sg} {i : Nat} {n : Int} (hi : l.length ≤ i) : gapsG (l.take i) n = gapsG l n := by rw [List.take_of_length_le hi]
theorem isGap_eq {n : Int} {x : Sg} : isGap n x = decide (0 < dif (begS x) n ∧ dif (begS x) n ≤ 1048576 ∧ 0 < x.d.size) := rfl
theorem bytesL_app (a b : ByteArray) : bytesL (a ++ b) = bytesL a ++ bytesL b := by
  unfold bytesL
  simp
theorem ba_app_empty (a b : ByteArray) (h : b.size = 0) : a ++ b = a := by
  have e : b = ByteArray.empty := by
    apply ByteArray.ext
    have h2 : b.data.size = 0 := h
    exact Array.eq_empty_of_size_eq_zero h2
  rw [e]
  exact ByteArray.append_empty
/-- Segments as they come in. -/
abbrev SegT := (Int × Int × Int × Int × Int × Int × Int × Int × Int × Int) × List Opt × ByteArray
def sgt0 : SegT := ((0, 0, 0, 0, 0, 0, 0, 0, 0, 0), [], ⟨#[]⟩)
def sgtD : D SegT := D.pair (D.pair (D.int .u16) (D.pair (D.int .u16) (D.pair (D.int .u32) (D.pair (D.int .u32) (D.pair (D.int .u8) (D.pair (D.int .u8) (D.pair (D.int .u8) (D.pair (D.int .u16) (D.pair (D.int .u16) (D.int .u16)))))))))) (D.pair (D.slice optD) D.str)
def hdT (x : SegT) : Hd := ⟨x.1.1, x.1.2.1, x.1.2.2.1, x.1.2.2.2.1, x.1.2.2.2.2.1, x.1.2.2.2.2.2.1, x.1.2.2.2.2.2.2.1, x.1.2.2.2.2.2.2.2.1, x.1.2.2.2.2.2.2.2.2.1, x.1.2.2.2.2.2.2.2.2.2⟩
theorem At.sgt {G : Mem} {A : Option Addr} {xs : List SegT} (R : List (Nat × Row)) (h : rowAt sgtD G A xs) (i : Nat) (hi : i < xs.length) : ∃ B c, At G R A (i * 12) (sgV ⟨hdT (xs.getD i sgt0), B, (xs.getD i sgt0).2.1.length, c, (xs.getD i sgt0).2.2⟩) ∧ (hdT (xs.getD i sgt0)).ok ∧ (xs.getD i sgt0).2.1.length ≤ c ∧ c ≤ maxLen ∧ rowAt optD G B (xs.getD i sgt0).2.1 ∧ (xs.getD i sgt0).2.2.size ≤ maxLen := by
  obtain ⟨cs, h1, h2⟩ := At.of_rowAt R h i hi
  have e : xs.getD i sgt0 = xs[i] := by simp [List.getD, hi]
  rw [e]
  obtain ⟨ca, cb, rfl, ⟨k0, m0, rfl, ⟨rfl, p0⟩, ⟨k1, m1, rfl, ⟨rfl, p1⟩, ⟨k2, m2, rfl, ⟨rfl, p2⟩, ⟨k3, m3, rfl, ⟨rfl, p3⟩, ⟨k4, m4, rfl, ⟨rfl, p4⟩, ⟨k5, m5, rfl, ⟨rfl, p5⟩, ⟨k6, m6, rfl, ⟨rfl, p6⟩, ⟨k7, m7, rfl, ⟨rfl, p7⟩, ⟨k8, m8, rfl, ⟨rfl, p8⟩, ⟨rfl, p9⟩⟩⟩⟩⟩⟩⟩⟩⟩⟩, ce, cf, rfl, ⟨B, c, rfl, g1, g2, g3⟩, rfl, g4⟩ := h1
  refine ⟨B, c, h2, ?_, g1, g2, g3, g4⟩
  simp only [IntKind.lo, IntKind.hi] at p0 p1 p2 p3 p4 p5 p6 p7 p8 p9
  exact ⟨p0, p1, p2, p3, p4, p5, p6, p7, p8, p9⟩
theorem QOk.scope {C : Ctx} {k : List CK} (h : QOk C) : QOk (scopeCtx C k) := fun c a w d v h' => den_panic h k c a w d v h'
end Go.Proofs.YtjgpdbkkpomhjaaX
