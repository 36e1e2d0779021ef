/- Rounds: words and plain laws. Conditions: none. -/
import Derived.Test.YthpinlcfcgnilaaXDJ
import Derived.Test.YthpinlcfcgnilaaXM
namespace Go.Proofs.YthpinlcfcgnilaaX
open Go.RowKit
set_option linter.unusedVariables false
def cM (m : Int) : Int := max 1 (min m 65536)
def cS (st : Int) : Int := max 0 (min st 1073741824)
def cN (ws : List Int) : Nat := min (max ws.length 1) 256
def cP (m p : Int) (n : Nat) : Int := max (2 * cM m * n) (min p 1073741824)
def cw (m : Int) (ws : List Int) (i : Nat) : Int := max (2 * cM m) (min (ws.getD i 0) 1073741824)
def ch (hs : List Int) (i : Nat) : Int := max 0 (min (hs.getD i 1048576) 1048576)
def cW (m : Int) (ws : List Int) (n : Nat) : List Int := (List.range n).map (cw m ws)
def cH (hs : List Int) (n : Nat) : List Int := (List.range n).map (ch hs)
theorem cM_range (m : Int) : 1 ≤ cM m ∧ cM m ≤ 65536 := by unfold cM; omega
theorem cN_range (ws : List Int) : 1 ≤ cN ws ∧ cN ws ≤ 256 := by unfold cN; omega
theorem cW_len (m : Int) (ws : List Int) (n : Nat) : (cW m ws n).length = n := by simp [cW]
theorem cH_len (hs : List Int) (n : Nat) : (cH hs n).length = n := by simp [cH]
theorem cW_succ (m : Int) (ws : List Int) (n : Nat) : cW m ws (n + 1) = cW m ws n ++ [cw m ws n] := by simp [cW, List.range_succ]
theorem cH_succ (hs : List Int) (n : Nat) : cH hs (n + 1) = cH hs n ++ [ch hs n] := by simp [cH, List.range_succ]
theorem getD_out {l : List Int} {i : Nat} {d : Int} (h : l.length ≤ i) : l.getD i d = d := by simp [List.getD, h]
theorem getD_in {l : List Int} {i : Nat} {d e : Int} (h : i < l.length) : l.getD i d = l.getD i e := by simp [List.getD, h]
theorem cP_lo (m : Int) {n : Nat} (h : n ≤ 256) : 0 ≤ 2 * cM m * (n : Int) ∧ 2 * cM m * (n : Int) ≤ 33554432 := by
  have h1 := cM_range m
  refine ⟨Int.mul_nonneg (by omega) (by omega), ?_⟩
  have := Int.mul_le_mul (show 2 * cM m ≤ 131072 by omega) (show (n : Int) ≤ 256 by omega) (by omega) (by decide)
  omega
end Go.Proofs.YthpinlcfcgnilaaX
