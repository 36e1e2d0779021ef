/- What the law of the receiver's takes is about. Conditions: none. -/
import Derived.Test.YthpinlcfcgnilaaXR4
import Derived.Test.YthpinlcfcgnilaaXJC
namespace Go.Proofs.YthpinlcfcgnilaaX
open Go.RowKit
set_option linter.unusedVariables false
set_option linter.unusedSimpArgs false
theorem At.pair2 {k1 k2 : IntKind} {G : Mem} {A : Option Addr} {xs : List (Int × Int)} (R : List (Nat × Row)) (h : rowAt (D.pair (D.int k1) (D.int k2)) G A xs) (i : Nat) (hi : i < xs.length) : At G R A (i * 2) [.int k1 (xs.getD i (0, 0)).1, .int k2 (xs.getD i (0, 0)).2] ∧ IntKind.lo k1 ≤ (xs.getD i (0, 0)).1 ∧ (xs.getD i (0, 0)).1 ≤ IntKind.hi k1 ∧ IntKind.lo k2 ≤ (xs.getD i (0, 0)).2 ∧ (xs.getD i (0, 0)).2 ≤ IntKind.hi k2 := by
  obtain ⟨cs, ⟨c0, c1, rfl, ⟨rfl, h1, h2⟩, rfl, h4, h5⟩, h3⟩ := At.of_rowAt R h i hi
  have e : xs.getD i (0, 0) = xs[i] := by simp [List.getD, hi]
  rw [e]
  exact ⟨h3, h1, h2, h4, h5⟩
def settle : Nat → Int → List Int → Int × List Int
  | 0, u, ks => (u, ks)
  | m + 1, u, ks => if u ∈ ks then settle m (u + 1) (ks.erase u) else (u, ks)
theorem settle_in {u : Int} {ks : List Int} (h : u ∈ ks) : settle ks.length u ks = settle (ks.erase u).length (u + 1) (ks.erase u) := by
  have hl := List.length_erase_of_mem h
  have hp : 0 < ks.length := List.length_pos_of_mem h
  rw [show ks.length = (ks.erase u).length + 1 by omega]
  simp [settle, h]
theorem settle_out {u : Int} {ks : List Int} (h : u ∉ ks) : settle ks.length u ks = (u, ks) := by
  cases e : ks.length with
  | zero => rfl
  | succ m => simp [settle, h]
theorem okm_filter {ks : List Int} {u v n : Int} (h : okm ks u n) : ks.filter (fun k => k != v) = ks.erase v := (List.Nodup.erase_eq_filter h.1 v).symm
theorem okm_wide {ks : List Int} {u n m : Int} (h : okm ks u n) (hm : n ≤ m) : okm ks u m := ⟨h.1, fun k hk => by have := h.2 k hk; omega⟩
theorem okm_range {ks : List Int} {u : Int} (h : okm ks u 5000) (hu : 0 ≤ u) : ∀ k ∈ ks, IntKind.lo .i64 ≤ k ∧ k ≤ IntKind.hi .i64 := fun k hk => by
  have := h.2 k hk
  simp only [IntKind.lo, IntKind.hi]
  omega
theorem okm_snoc {ks : List Int} {u s : Int} (h : okm ks u 5000) (h0 : u ≤ s) (h1 : s < 5000) (hs : s ∉ ks) : okm (ks ++ [s]) u 5000 := by
  have := okm_upd h h0 h1
  rwa [if_neg hs] at this
theorem settle_eq {v v2 : Int} {js j2 : List Int} {p : Int × List Int} (h : settle js.length v js = p) (h2 : settle j2.length v2 j2 = p) (hv : v ∉ js) (hv2 : v2 ∉ j2) : v = v2 ∧ js = j2 := by
  rw [settle_out hv] at h
  rw [settle_out hv2] at h2
  rw [← h2] at h
  exact ⟨congrArg Prod.fst h, congrArg Prod.snd h⟩
/-- What is told of the bytes: just if as many answers were given. -/
def bwt (q t x : Int) : Int := if q > 0 ∧ Int.tmod t q = 0 then x else -1
theorem bt_yes {q t x : Int} (h : q > 0) (h2 : Int.tmod t q = 0) : bwt q t x = x := if_pos ⟨h, h2⟩
theorem bt_no {q t x : Int} (h2 : ¬ (Int.tmod t q = 0)) : bwt q t x = -1 := if_neg fun h => h2 h.2
theorem bt_off {q t x : Int} (h : ¬ (q > 0)) : bwt q t x = -1 := if_neg fun h2 => h h2.1
def stepUK (u : Int) (ks : List Int) (sq : Int) : Int × List Int := if sq > u ∧ sq - u ≤ 4096 then (u, if sq ∈ ks then ks else ks ++ [sq]) else if sq = u then settle ks.length (u + 1) ks else (u, ks)
theorem step_pos {u sq : Int} {ks : List Int} (h : sq > u) (h2 : sq - u ≤ 4096) : (u, if sq ∈ ks then ks else ks ++ [sq]) = stepUK u ks sq := by unfold stepUK; exact (if_pos (⟨h, h2⟩ : sq > u ∧ sq - u ≤ 4096)).symm
theorem step_none {u sq : Int} {ks : List Int} (h : ¬ (sq > u ∧ sq - u ≤ 4096)) (h2 : sq ≠ u) : (u, ks) = stepUK u ks sq := by unfold stepUK; rw [if_neg h, if_neg h2]
theorem step_zero {u sq v : Int} {ks js : List Int} (h : sq = u) (hS : settle js.length v js = settle ks.length (u + 1) ks) (hv : v ∉ js) : (v, js) = stepUK u ks sq := by
  unfold stepUK
  rw [if_neg (by omega), if_pos h, ← hS, settle_out hv]
theorem upd_len {ks : List Int} {s : Int} : (if s ∈ ks then ks else ks ++ [s]).length ≤ ks.length + 1 := by
  split <;> simp
end Go.Proofs.YthpinlcfcgnilaaX
