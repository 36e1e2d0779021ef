/- What sum.Sum tells of parts of bytes. -/
import Derived.Test.YtjgpdbkkpomhjaaProg
import Derived.KernelRfl
import Derived.Test.YtjgpdbkkpomhjaaXS1
namespace Go.Proofs.YtjgpdbkkpomhjaaX
open Go.RowKit
set_option linter.unusedVariables false
set_option linter.unusedSimpArgs false
set_option maxRecDepth 100000
/-- leat/sum.Sum -/
noncomputable def B28 : Code := bodyOf Try.f28
set_option maxHeartbeats 1000000 in
theorem Sum_ok (A : Option Addr) (c : Nat) (ps : List (List Int)) (G : Mem) (hps : rowAt (D.slice (D.int .u8)) G A ps) (hn : ps.length ≤ 1000000) (hT : wsum false ps.flatten ≤ 1152921504606846976) : CallsG Try.prog 28 [.slice A ps.length c] G (fun _ v rows => v = .int .u16 (cks ps.flatten) ∧ rows = []) := by
  have hby := rows_bytes hps
  refine CallsG.enter Try.func28 rfl rfl ?_
  intro w
  refine X.run 20 [2, 3, 4, 9, 10, 11] [] (.code (cA B28 [1, 1, 0, 1, 0])) [.blk 0, .seq (cA B28 [1, 1, 1])] ⟨46, [(2, .v (.int .u16 0)), (3, .v (.int .u64 0)), (4, .v (.bool false)), (9, .v (.slice A ps.length c)), (10, .v (.int .i64 ((ps.length : Nat) : Int))), (11, .v (.int .i64 0))], []⟩ (by kernel_rfl) ?_
  refine X.loopJ (fun m s R' G' => ∃ (a : Int) (od : Bool) (i : Int), s = ⟨46, [(2, .v (.int .u16 0)), (3, .v (.int .u64 a)), (4, .v (.bool od)), (9, .v (.slice A ps.length c)), (10, .v (.int .i64 ((ps.length : Nat) : Int))), (11, .v (.int .i64 i))], []⟩ ∧ R' = [] ∧ G = G' ∧ (0 ≤ i ∧ i ≤ (ps.length : Int) ∧ 0 ≤ a ∧ a + wsum od (ps.drop i.toNat).flatten = wsum false ps.flatten) ∧ m = ((ps.length : Int) - i).toNat) _ ⟨0, false, 0, rfl, rfl, rfl, ⟨by omega, by omega, by omega, by simp⟩, rfl⟩ ?_
  rintro m1 s1 R1 G1 ⟨a, od, i, rfl, rfl, rfl, hF1, rfl⟩ J1 hJ1
  obtain ⟨hi0, hi1, hi2, hi3⟩ := hF1
  refine X.run 6 [2, 3, 4, 9, 10, 11, 12] [] (.code (cA B28 [1, 1, 0, 1, 0, 0, 1, 0])) [.seq (cA B28 [1, 1, 0, 1, 0, 0, 1, 1]), .loop J1, .blk 0, .seq (cA B28 [1, 1, 1])] ⟨46, [(2, .v (.int .u16 0)), (3, .v (.int .u64 a)), (4, .v (.bool od)), (9, .v (.slice A ps.length c)), (10, .v (.int .i64 ((ps.length : Nat) : Int))), (11, .v (.int .i64 i)), (12, .v (.bool (decide (i < ((ps.length : Nat) : Int)))))], []⟩ (by kernel_rfl) ?_
  refine X.split 12 rfl (fun h2 => ?_) (fun h2 => ?_)
  · -- slot 12: decide (i < ((ps.length : Nat) : Int)) is True
    replace h2 : i < ((ps.length : Nat) : Int) := of_decide_eq_true h2
    refine X.run 7 [2, 3, 4, 9, 10, 11] [] (.ops (aA B28 [1, 1, 0, 1, 0, 0, 1, 1, 0, 0, 0]) (oA B28 [1, 1, 0, 1, 0, 0, 1, 1, 0, 0, 0] 0 :: lA B28 [1, 1, 0, 1, 0, 0, 1, 1, 0, 0, 0] 1)) [.seq (cA B28 [1, 1, 0, 1, 0, 0, 1, 1, 0, 0, 1]), .blk 1, .seq (cA B28 [1, 1, 0, 1, 0, 0, 1, 1, 1]), .loop J1, .blk 0, .seq (cA B28 [1, 1, 1])] ⟨46, [(2, .v (.int .u16 0)), (3, .v (.int .u64 a)), (4, .v (.bool od)), (9, .v (.slice A ps.length c)), (10, .v (.int .i64 ((ps.length : Nat) : Int))), (11, .v (.int .i64 i))], []⟩ (by kernel_rfl) ?_
    have b3 : (0 : Int) ≤ i := by omega
    have b4 : i < ((ps.length : Nat) : Int) := by omega
    refine X.index (t := 121) (e := 22) (sz := 1) (A := A) (n := ps.length) (c := c) (ki := .i64) (i := i) (x := .tmp 9) (ix := .tmp 11) (by kernel_rfl) (by kernel_rfl) (by kernel_rfl) (by kernel_rfl) (by kernel_rfl) (by kernel_rfl) b3 b4 (fun _ _ => rowAt.so hps (by omega)) ?_
    obtain ⟨A5, c5, at5, le5, mx5, hr5⟩ := At.slice [] hps ((i).toNat) (by omega)
    simp only [maxLen] at mx5
    refine X.load (t := 22) (A := A) (j := (i).toNat * 1) (x := .tmp 13) (z := .slice A5 ((ps.getD ((i).toNat) []).length) c5) [.slice A5 ((ps.getD ((i).toNat) []).length) c5] (by kernel_rfl) (by kernel_rfl) at5 (by kernel_rfl) (by kernel_rfl) ?_
    refine X.run 11 [2, 3, 4, 9, 10, 11, 15, 16, 17] [] (.code (cA B28 [1, 1, 0, 1, 0, 0, 1, 1, 0, 0, 1, 1, 0])) [.blk 2, .blk 1, .seq (cA B28 [1, 1, 0, 1, 0, 0, 1, 1, 1]), .loop J1, .blk 0, .seq (cA B28 [1, 1, 1])] ⟨46, [(2, .v (.int .u16 0)), (3, .v (.int .u64 a)), (4, .v (.bool od)), (9, .v (.slice A ps.length c)), (10, .v (.int .i64 ((ps.length : Nat) : Int))), (11, .v (.int .i64 i)), (15, .v (.slice A5 ((ps.getD ((i).toNat) []).length) c5)), (16, .v (.int .i64 (((ps.getD ((i).toNat) []).length : Nat) : Int))), (17, .v (.int .i64 0))], []⟩ (by kernel_rfl) ?_
    refine X.loopJ (fun m s R' G' => ∃ (a2 : Int) (od2 : Bool) (j : Int), s = ⟨46, [(2, .v (.int .u16 0)), (3, .v (.int .u64 a2)), (4, .v (.bool od2)), (9, .v (.slice A ps.length c)), (10, .v (.int .i64 ((ps.length : Nat) : Int))), (11, .v (.int .i64 i)), (15, .v (.slice A5 ((ps.getD ((i).toNat) []).length) c5)), (16, .v (.int .i64 (((ps.getD ((i).toNat) []).length : Nat) : Int))), (17, .v (.int .i64 j))], []⟩ ∧ R' = [] ∧ G = G' ∧ (0 ≤ j ∧ j ≤ ((ps.getD ((i).toNat) []).length : Int) ∧ 0 ≤ a2 ∧ a2 + wsum od2 ((ps.getD ((i).toNat) []).drop (j).toNat ++ (ps.drop (i.toNat + 1)).flatten) = wsum false ps.flatten) ∧ m = (((ps.getD ((i).toNat) []).length : Int) - j).toNat) _ ⟨a, od, 0, rfl, rfl, rfl, ⟨by omega, by omega, by omega, by rw [Int.toNat_zero, List.drop_zero, ← flat_drop (by omega)]; exact hi3⟩, rfl⟩ ?_
    rintro m6 s6 R6 G6 ⟨a2, od2, j, rfl, rfl, rfl, hF6, rfl⟩ J6 hJ6
    obtain ⟨hj0, hj1, hj2, hj3⟩ := hF6
    have hbw := wsum_bounds _ od2 (bytes_rest hby i.toNat j.toNat (by omega))
    refine X.run 6 [2, 3, 4, 9, 10, 11, 15, 16, 17, 18] [] (.code (cA B28 [1, 1, 0, 1, 0, 0, 1, 1, 0, 0, 1, 1, 0, 0, 1, 0])) [.seq (cA B28 [1, 1, 0, 1, 0, 0, 1, 1, 0, 0, 1, 1, 0, 0, 1, 1]), .loop J6, .blk 2, .blk 1, .seq (cA B28 [1, 1, 0, 1, 0, 0, 1, 1, 1]), .loop J1, .blk 0, .seq (cA B28 [1, 1, 1])] ⟨46, [(2, .v (.int .u16 0)), (3, .v (.int .u64 a2)), (4, .v (.bool od2)), (9, .v (.slice A ps.length c)), (10, .v (.int .i64 ((ps.length : Nat) : Int))), (11, .v (.int .i64 i)), (15, .v (.slice A5 ((ps.getD ((i).toNat) []).length) c5)), (16, .v (.int .i64 (((ps.getD ((i).toNat) []).length : Nat) : Int))), (17, .v (.int .i64 j)), (18, .v (.bool (decide (j < (((ps.getD ((i).toNat) []).length : Nat) : Int)))))], []⟩ (by kernel_rfl) ?_
    refine X.split 18 rfl (fun h7 => ?_) (fun h7 => ?_)
    · -- slot 18: decide (j < (((ps.getD ((i).toNat) []).length : Nat) : Int)) is True
      replace h7 : j < (((ps.getD ((i).toNat) []).length : Nat) : Int) := of_decide_eq_true h7
      refine X.run 7 [2, 3, 4, 9, 10, 11, 15, 16, 17] [] (.ops (aA B28 [1, 1, 0, 1, 0, 0, 1, 1, 0, 0, 1, 1, 0, 0, 1, 1, 0, 0, 0]) (oA B28 [1, 1, 0, 1, 0, 0, 1, 1, 0, 0, 1, 1, 0, 0, 1, 1, 0, 0, 0] 0 :: lA B28 [1, 1, 0, 1, 0, 0, 1, 1, 0, 0, 1, 1, 0, 0, 1, 1, 0, 0, 0] 1)) [.seq (cA B28 [1, 1, 0, 1, 0, 0, 1, 1, 0, 0, 1, 1, 0, 0, 1, 1, 0, 0, 1]), .blk 3, .seq (cA B28 [1, 1, 0, 1, 0, 0, 1, 1, 0, 0, 1, 1, 0, 0, 1, 1, 1]), .loop J6, .blk 2, .blk 1, .seq (cA B28 [1, 1, 0, 1, 0, 0, 1, 1, 1]), .loop J1, .blk 0, .seq (cA B28 [1, 1, 1])] ⟨46, [(2, .v (.int .u16 0)), (3, .v (.int .u64 a2)), (4, .v (.bool od2)), (9, .v (.slice A ps.length c)), (10, .v (.int .i64 ((ps.length : Nat) : Int))), (11, .v (.int .i64 i)), (15, .v (.slice A5 ((ps.getD ((i).toNat) []).length) c5)), (16, .v (.int .i64 (((ps.getD ((i).toNat) []).length : Nat) : Int))), (17, .v (.int .i64 j))], []⟩ (by kernel_rfl) ?_
      have b8 : (0 : Int) ≤ j := by omega
      have b9 : j < (((ps.getD ((i).toNat) []).length : Nat) : Int) := by omega
      refine X.index (t := 22) (e := 5) (sz := 1) (A := A5) (n := (ps.getD ((i).toNat) []).length) (c := c5) (ki := .i64) (i := j) (x := .tmp 15) (ix := .tmp 17) (by kernel_rfl) (by kernel_rfl) (by kernel_rfl) (by kernel_rfl) (by kernel_rfl) (by kernel_rfl) b8 b9 (fun _ _ => rowAt.so hr5 (by omega)) ?_
      obtain ⟨at10, lo10, hi10⟩ := At.int [] hr5 ((j).toNat) (by omega)
      simp only [IntKind.lo, IntKind.hi] at lo10 hi10
      refine X.load (t := 5) (A := A5) (j := (j).toNat * 1) (x := .tmp 19) (z := .int .u8 ((ps.getD ((i).toNat) []).getD ((j).toNat) 0)) [.int .u8 ((ps.getD ((i).toNat) []).getD ((j).toNat) 0)] (by kernel_rfl) (by kernel_rfl) at10 (by kernel_rfl) (by kernel_rfl) ?_
      refine X.run 9 [2, 3, 4, 8, 9, 10, 11, 15, 16, 17, 21] [] (.code (cA B28 [1, 1, 0, 1, 0, 0, 1, 1, 0, 0, 1, 1, 0, 0, 1, 1, 0, 0, 1, 0, 1])) [.seq (cA B28 [1, 1, 0, 1, 0, 0, 1, 1, 0, 0, 1, 1, 0, 0, 1, 1, 0, 0, 1, 1]), .blk 3, .seq (cA B28 [1, 1, 0, 1, 0, 0, 1, 1, 0, 0, 1, 1, 0, 0, 1, 1, 1]), .loop J6, .blk 2, .blk 1, .seq (cA B28 [1, 1, 0, 1, 0, 0, 1, 1, 1]), .loop J1, .blk 0, .seq (cA B28 [1, 1, 1])] ⟨46, [(2, .v (.int .u16 0)), (3, .v (.int .u64 a2)), (4, .v (.bool od2)), (8, .v (.int .u8 ((ps.getD ((i).toNat) []).getD ((j).toNat) 0))), (9, .v (.slice A ps.length c)), (10, .v (.int .i64 ((ps.length : Nat) : Int))), (11, .v (.int .i64 i)), (15, .v (.slice A5 ((ps.getD ((i).toNat) []).length) c5)), (16, .v (.int .i64 (((ps.getD ((i).toNat) []).length : Nat) : Int))), (17, .v (.int .i64 j)), (21, .v (.bool od2))], []⟩ (by kernel_rfl) ?_
      refine X.split 21 rfl (fun h11 => ?_) (fun h11 => ?_)
      · -- slot 21: od2 is True
        refine X.run 20 [2, 3, 4, 9, 10, 11, 15, 16, 17] [] (.ex .normal) [.loop J6, .blk 2, .blk 1, .seq (cA B28 [1, 1, 0, 1, 0, 0, 1, 1, 1]), .loop J1, .blk 0, .seq (cA B28 [1, 1, 1])] ⟨46, [(2, .v (.int .u16 0)), (3, .v (.int .u64 (IntKind.u64.wrap (a2 + (IntKind.u64.wrap ((ps.getD ((i).toNat) []).getD ((j).toNat) 0)))))), (4, .v (.bool (!od2))), (9, .v (.slice A ps.length c)), (10, .v (.int .i64 ((ps.length : Nat) : Int))), (11, .v (.int .i64 i)), (15, .v (.slice A5 ((ps.getD ((i).toNat) []).length) c5)), (16, .v (.int .i64 (((ps.getD ((i).toNat) []).length : Nat) : Int))), (17, .v (.int .i64 (IntKind.i64.wrap (j + 1))))], []⟩ (by kernel_rfl) ?_
        -- again (TTT)
        have hx := wsum_drop (l := (ps.getD ((i).toNat) [])) (j := (j).toNat) (by omega) od2 (ps.drop (i.toNat + 1)).flatten
        have hb2 := wsum_bounds _ (!od2) (bytes_rest hby i.toNat (j.toNat + 1) (by omega))
        have e1 : IntKind.i64.wrap (j + 1) = j + 1 := wi64 (by omega) (by omega)
        have e0 : (j + 1).toNat = j.toNat + 1 := by omega
        subst h11
        simp only [Bool.false_eq_true, if_true, if_false, Bool.not_true, Bool.not_false] at hx hj3 hbw hb2 ⊢
        have e2 : IntKind.u64.wrap (a2 + (IntKind.u64.wrap ((ps.getD ((i).toNat) []).getD ((j).toNat) 0))) = a2 + ((ps.getD ((i).toNat) []).getD ((j).toNat) 0) := by
          have e3 : IntKind.u64.wrap ((ps.getD ((i).toNat) []).getD ((j).toNat) 0) = ((ps.getD ((i).toNat) []).getD ((j).toNat) 0) := wu64 (by omega) (by omega)
          rw [e3, wu64 (by omega) (by omega)]
        exact X.again (hJ6 _ _ _ _ ⟨IntKind.u64.wrap (a2 + (IntKind.u64.wrap ((ps.getD ((i).toNat) []).getD ((j).toNat) 0))), false, IntKind.i64.wrap (j + 1), rfl, rfl, rfl, ⟨by omega, by omega, by omega, by rw [e1, e0, e2]; omega⟩, rfl⟩ (by rw [e1]; omega))
      · -- slot 21: od2 is False
        refine X.run 21 [2, 3, 4, 9, 10, 11, 15, 16, 17] [] (.ex .normal) [.loop J6, .blk 2, .blk 1, .seq (cA B28 [1, 1, 0, 1, 0, 0, 1, 1, 1]), .loop J1, .blk 0, .seq (cA B28 [1, 1, 1])] ⟨46, [(2, .v (.int .u16 0)), (3, .v (.int .u64 (IntKind.u64.wrap (a2 + (bshl .u64 (IntKind.u64.wrap ((ps.getD ((i).toNat) []).getD ((j).toNat) 0)) 8))))), (4, .v (.bool (!od2))), (9, .v (.slice A ps.length c)), (10, .v (.int .i64 ((ps.length : Nat) : Int))), (11, .v (.int .i64 i)), (15, .v (.slice A5 ((ps.getD ((i).toNat) []).length) c5)), (16, .v (.int .i64 (((ps.getD ((i).toNat) []).length : Nat) : Int))), (17, .v (.int .i64 (IntKind.i64.wrap (j + 1))))], []⟩ (by kernel_rfl) ?_
        -- again (TTF)
        have hx := wsum_drop (l := (ps.getD ((i).toNat) [])) (j := (j).toNat) (by omega) od2 (ps.drop (i.toNat + 1)).flatten
        have hb2 := wsum_bounds _ (!od2) (bytes_rest hby i.toNat (j.toNat + 1) (by omega))
        have e1 : IntKind.i64.wrap (j + 1) = j + 1 := wi64 (by omega) (by omega)
        have e0 : (j + 1).toNat = j.toNat + 1 := by omega
        subst h11
        simp only [Bool.false_eq_true, if_true, if_false, Bool.not_true, Bool.not_false] at hx hj3 hbw hb2 ⊢
        have e2 : IntKind.u64.wrap (a2 + (bshl .u64 (IntKind.u64.wrap ((ps.getD ((i).toNat) []).getD ((j).toNat) 0)) 8)) = a2 + ((ps.getD ((i).toNat) []).getD ((j).toNat) 0) * 256 := by
          have e3 : IntKind.u64.wrap ((ps.getD ((i).toNat) []).getD ((j).toNat) 0) = ((ps.getD ((i).toNat) []).getD ((j).toNat) 0) := wu64 (by omega) (by omega)
          have e4 : bshl .u64 ((ps.getD ((i).toNat) []).getD ((j).toNat) 0) 8 = ((ps.getD ((i).toNat) []).getD ((j).toNat) 0) * 256 := by unfold bshl; exact wu64 (by show 0 ≤ ((ps.getD ((i).toNat) []).getD ((j).toNat) 0) * 256; omega) (by show ((ps.getD ((i).toNat) []).getD ((j).toNat) 0) * 256 ≤ _; omega)
          rw [e3, e4, wu64 (by omega) (by omega)]
        exact X.again (hJ6 _ _ _ _ ⟨IntKind.u64.wrap (a2 + (bshl .u64 (IntKind.u64.wrap ((ps.getD ((i).toNat) []).getD ((j).toNat) 0)) 8)), true, IntKind.i64.wrap (j + 1), rfl, rfl, rfl, ⟨by omega, by omega, by omega, by rw [e1, e0, e2]; omega⟩, rfl⟩ (by rw [e1]; omega))
    · -- slot 18: decide (j < (((ps.getD ((i).toNat) []).length : Nat) : Int)) is False
      replace h7 : ¬ (j < (((ps.getD ((i).toNat) []).length : Nat) : Int)) := of_decide_eq_false h7
      refine X.run 11 [2, 3, 4, 9, 10, 11] [] (.ex .normal) [.loop J1, .blk 0, .seq (cA B28 [1, 1, 1])] ⟨46, [(2, .v (.int .u16 0)), (3, .v (.int .u64 a2)), (4, .v (.bool od2)), (9, .v (.slice A ps.length c)), (10, .v (.int .i64 ((ps.length : Nat) : Int))), (11, .v (.int .i64 (IntKind.i64.wrap (i + 1))))], []⟩ (by kernel_rfl) ?_
      -- again (TF)
      have e1 : IntKind.i64.wrap (i + 1) = i + 1 := wi64 (by omega) (by omega)
      have e0 : (i + 1).toNat = i.toNat + 1 := by omega
      rw [List.drop_eq_nil_of_le (by omega), List.nil_append] at hj3
      exact X.again (hJ1 _ _ _ _ ⟨a2, od2, IntKind.i64.wrap (i + 1), rfl, rfl, rfl, ⟨by omega, by omega, by omega, by rw [e1, e0]; exact hj3⟩, rfl⟩ (by rw [e1]; omega))
  · -- slot 12: decide (i < ((ps.length : Nat) : Int)) is False
    replace h2 : ¬ (i < ((ps.length : Nat) : Int)) := of_decide_eq_false h2
    refine X.run 8 [2, 3] [] (.code (cA B28 [1, 1, 1, 0, 0])) [.blk 4, .seq (cA B28 [1, 1, 1, 1])] ⟨46, [(2, .v (.int .u16 0)), (3, .v (.int .u64 a))], []⟩ (by kernel_rfl) ?_
    refine X.loopJ (fun m s R' G' => ∃ (q : Int), s = ⟨46, [(2, .v (.int .u16 0)), (3, .v (.int .u64 q))], []⟩ ∧ R' = [] ∧ G = G' ∧ (0 ≤ q ∧ q ≤ 1152921504606846976 ∧ fold16 q = fold16 (wsum false ps.flatten)) ∧ m = (q).toNat) _ ⟨a, rfl, rfl, rfl, ⟨by omega, by rw [List.drop_eq_nil_of_le (by omega)] at hi3; cases od <;> simp [wsum] at hi3 <;> omega, by rw [List.drop_eq_nil_of_le (by omega)] at hi3; cases od <;> simp [wsum] at hi3 <;> rw [hi3]⟩, rfl⟩ ?_
    rintro m12 s12 R12 G12 ⟨q, rfl, rfl, rfl, hF12, rfl⟩ J12 hJ12
    obtain ⟨hs0, hs1, hs2⟩ := hF12
    have er : bshr .u64 q 16 = q / 65536 := by rw [shr_nn hs0]; rfl
    have eb := band_low16 hs0 (by omega)
    refine X.run 8 [2, 3, 37] [] (.code (cA B28 [1, 1, 1, 0, 0, 0, 0, 1])) [.seq (cA B28 [1, 1, 1, 0, 0, 0, 1]), .loop J12, .blk 4, .seq (cA B28 [1, 1, 1, 1])] ⟨46, [(2, .v (.int .u16 0)), (3, .v (.int .u64 q)), (37, .v (.bool (decide (bshr .u64 q 16 > 0))))], []⟩ (by kernel_rfl) ?_
    refine X.split 37 rfl (fun h13 => ?_) (fun h13 => ?_)
    · -- slot 37: decide (bshr .u64 q 16 > 0) is True
      replace h13 : bshr .u64 q 16 > 0 := of_decide_eq_true h13
      refine X.run 13 [2, 3] [] (.ex .normal) [.loop J12, .blk 4, .seq (cA B28 [1, 1, 1, 1])] ⟨46, [(2, .v (.int .u16 0)), (3, .v (.int .u64 (IntKind.u64.wrap ((band .u64 q 65535) + (bshr .u64 q 16)))))], []⟩ (by kernel_rfl) ?_
      -- again (FT)
      have e2 : IntKind.u64.wrap ((band .u64 q 65535) + (bshr .u64 q 16)) = q % 65536 + q / 65536 := by
        rw [er, eb, wu64 (by omega) (by omega)]
      exact X.again (hJ12 _ _ _ _ ⟨IntKind.u64.wrap ((band .u64 q 65535) + (bshr .u64 q 16)), rfl, rfl, rfl, ⟨by omega, by omega, by rw [e2, fold16_step (by omega)]; exact hs2⟩, rfl⟩ (by rw [e2]; omega))
    · -- slot 37: decide (bshr .u64 q 16 > 0) is False
      replace h13 : ¬ (bshr .u64 q 16 > 0) := of_decide_eq_false h13
      refine X.run 15 [2] [] (.ex .ret) [] ⟨46, [(2, .v (.int .u16 (bxor .u16 65535 (IntKind.u16.wrap q))))], []⟩ (by kernel_rfl) ?_
      refine doneG (.inl rfl) [.int .u16 (bxor .u16 65535 (IntKind.u16.wrap q))] [] (by kernel_rfl) rfl rfl (Ge.refl _ _) ?_
      -- end 1 (FF)
      have hb3 := cks_bounds (bytes_flat hby)
      refine ⟨?_, rfl⟩
      rw [wu16 (by omega) (by omega), bxor_16 (by omega) (by omega), ← fold16_small hs0 (by omega), hs2]
      rfl

/-- leat/leatref10.Sum -/
noncomputable def B29 : Code := bodyOf Try.f29
set_option maxHeartbeats 1000000 in
theorem SumRef_ok (A : Option Addr) (c : Nat) (b : List Int) (G : Mem) (hb : rowAt (D.int .u8) G A b) (hle : b.length ≤ c) (hmx : c ≤ maxLen) (hsz : b.length ≤ 1000000000) : CallsG Try.prog 29 [.slice A b.length c] G (fun _ v rows => v = .int .u16 (cks b) ∧ rows = []) := by
  simp only [maxLen] at hmx
  have hby := row_bytes hb
  refine CallsG.enter Try.func29 rfl rfl ?_
  intro w
  refine X.run 17 [0, 2, 3, 4] [] (.code (cA B29 [1, 1, 0, 1, 0])) [.blk 0, .seq (cA B29 [1, 1, 1])] ⟨42, [(0, .v (.slice A b.length c)), (2, .v (.int .u16 0)), (3, .v (.int .i64 0)), (4, .v (.int .i64 0))], []⟩ (by kernel_rfl) ?_
  refine X.loopJ (fun m s R' G' => ∃ (q i : Int), s = ⟨42, [(0, .v (.slice A b.length c)), (2, .v (.int .u16 0)), (3, .v (.int .i64 q)), (4, .v (.int .i64 i))], []⟩ ∧ R' = [] ∧ G = G' ∧ (0 ≤ i ∧ i ≤ (b.length : Int) + 1 ∧ 0 ≤ q ∧ q ≤ 65535 ∧ fold16 (q + wsum false (b.drop i.toNat)) = fold16 (wsum false b)) ∧ m = ((b.length : Int) + 1 - i).toNat) _ ⟨0, 0, rfl, rfl, rfl, ⟨by omega, by omega, by omega, by omega, by simp⟩, rfl⟩ ?_
  rintro m1 s1 R1 G1 ⟨q, i, rfl, rfl, rfl, hF1, rfl⟩ J1 hJ1
  obtain ⟨hi0, hi1, hi2, hi3, hi4⟩ := hF1
  refine X.run 9 [0, 2, 3, 4, 9] [] (.code (cA B29 [1, 1, 0, 1, 0, 0, 0, 1])) [.seq (cA B29 [1, 1, 0, 1, 0, 0, 1]), .loop J1, .blk 0, .seq (cA B29 [1, 1, 1])] ⟨42, [(0, .v (.slice A b.length c)), (2, .v (.int .u16 0)), (3, .v (.int .i64 q)), (4, .v (.int .i64 i)), (9, .v (.bool (decide (i < ((b.length : Nat) : Int)))))], []⟩ (by kernel_rfl) ?_
  refine X.split 9 rfl (fun h2 => ?_) (fun h2 => ?_)
  · -- slot 9: decide (i < ((b.length : Nat) : Int)) is True
    replace h2 : i < ((b.length : Nat) : Int) := of_decide_eq_true h2
    refine X.run 9 [0, 2, 3, 4, 12, 13] [] (.ops (aA B29 [1, 1, 0, 1, 0, 0, 1, 0, 0, 0]) (oA B29 [1, 1, 0, 1, 0, 0, 1, 0, 0, 0] 2 :: lA B29 [1, 1, 0, 1, 0, 0, 1, 0, 0, 0] 3)) [.seq (cA B29 [1, 1, 0, 1, 0, 0, 1, 0, 0, 1]), .blk 1, .seq (cA B29 [1, 1, 0, 1, 0, 0, 1, 1]), .loop J1, .blk 0, .seq (cA B29 [1, 1, 1])] ⟨42, [(0, .v (.slice A b.length c)), (2, .v (.int .u16 0)), (3, .v (.int .i64 q)), (4, .v (.int .i64 i)), (12, .v (.slice A b.length c)), (13, .v (.int .i64 i))], []⟩ (by kernel_rfl) ?_
    have b3 : (0 : Int) ≤ i := by omega
    have b4 : i < ((b.length : Nat) : Int) := by omega
    refine X.index (t := 22) (e := 5) (sz := 1) (A := A) (n := b.length) (c := c) (ki := .i64) (i := i) (x := .tmp 12) (ix := .tmp 13) (by kernel_rfl) (by kernel_rfl) (by kernel_rfl) (by kernel_rfl) (by kernel_rfl) (by kernel_rfl) b3 b4 (fun _ _ => rowAt.so hb (by omega)) ?_
    obtain ⟨at5, lo5, hi5⟩ := At.int [] hb ((i).toNat) (by omega)
    simp only [IntKind.lo, IntKind.hi] at lo5 hi5
    refine X.run 0 [0, 2, 3, 4, 14] [] (.ops (aA B29 [1, 1, 0, 1, 0, 0, 1, 0, 0, 0]) (oA B29 [1, 1, 0, 1, 0, 0, 1, 0, 0, 0] 3 :: lA B29 [1, 1, 0, 1, 0, 0, 1, 0, 0, 0] 4)) [.seq (cA B29 [1, 1, 0, 1, 0, 0, 1, 0, 0, 1]), .blk 1, .seq (cA B29 [1, 1, 0, 1, 0, 0, 1, 1]), .loop J1, .blk 0, .seq (cA B29 [1, 1, 1])] ⟨42, [(0, .v (.slice A b.length c)), (2, .v (.int .u16 0)), (3, .v (.int .i64 q)), (4, .v (.int .i64 i)), (14, .v (elt A ((i).toNat * 1)))], []⟩ (by kernel_rfl) ?_
    refine X.load (t := 5) (A := A) (j := (i).toNat * 1) (x := .tmp 14) (z := .int .u8 (b.getD ((i).toNat) 0)) [.int .u8 (b.getD ((i).toNat) 0)] (by kernel_rfl) (by kernel_rfl) at5 (by kernel_rfl) (by kernel_rfl) ?_
    refine X.run 1 [0, 2, 3, 4, 16] [] (.ops (aA B29 [1, 1, 0, 1, 0, 0, 1, 0, 0, 0]) (oA B29 [1, 1, 0, 1, 0, 0, 1, 0, 0, 0] 5 :: lA B29 [1, 1, 0, 1, 0, 0, 1, 0, 0, 0] 6)) [.seq (cA B29 [1, 1, 0, 1, 0, 0, 1, 0, 0, 1]), .blk 1, .seq (cA B29 [1, 1, 0, 1, 0, 0, 1, 1]), .loop J1, .blk 0, .seq (cA B29 [1, 1, 1])] ⟨42, [(0, .v (.slice A b.length c)), (2, .v (.int .u16 0)), (3, .v (.int .i64 q)), (4, .v (.int .i64 i)), (16, .v (.int .i64 (IntKind.i64.wrap (b.getD ((i).toNat) 0))))], []⟩ (by kernel_rfl) ?_
    refine X.known 16 (y := .v (.int .i64 (b.getD ((i).toNat) 0))) rfl (congrArg (fun z_ => AV.v (.int .i64 z_)) (wi64 (by omega) (by omega))) ?_
    refine X.run 1 [0, 2, 3, 4, 17] [] (.ops (aA B29 [1, 1, 0, 1, 0, 0, 1, 0, 0, 0]) (oA B29 [1, 1, 0, 1, 0, 0, 1, 0, 0, 0] 6 :: lA B29 [1, 1, 0, 1, 0, 0, 1, 0, 0, 0] 7)) [.seq (cA B29 [1, 1, 0, 1, 0, 0, 1, 0, 0, 1]), .blk 1, .seq (cA B29 [1, 1, 0, 1, 0, 0, 1, 1]), .loop J1, .blk 0, .seq (cA B29 [1, 1, 1])] ⟨42, [(0, .v (.slice A b.length c)), (2, .v (.int .u16 0)), (3, .v (.int .i64 q)), (4, .v (.int .i64 i)), (17, .v (.int .i64 (IntKind.i64.wrap ((b.getD ((i).toNat) 0) * 256))))], []⟩ (by kernel_rfl) ?_
    refine X.known 17 (y := .v (.int .i64 ((b.getD ((i).toNat) 0) * 256))) rfl (congrArg (fun z_ => AV.v (.int .i64 z_)) (wi64 (by omega) (by omega))) ?_
    refine X.run 8 [0, 2, 3, 4, 5, 19] [] (.ops (aA B29 [1, 1, 0, 1, 0, 0, 1, 0, 0, 1, 0, 0]) (oA B29 [1, 1, 0, 1, 0, 0, 1, 0, 0, 1, 0, 0] 2 :: lA B29 [1, 1, 0, 1, 0, 0, 1, 0, 0, 1, 0, 0] 3)) [.seq (cA B29 [1, 1, 0, 1, 0, 0, 1, 0, 0, 1, 0, 1]), .seq (cA B29 [1, 1, 0, 1, 0, 0, 1, 0, 0, 1, 1]), .blk 1, .seq (cA B29 [1, 1, 0, 1, 0, 0, 1, 1]), .loop J1, .blk 0, .seq (cA B29 [1, 1, 1])] ⟨42, [(0, .v (.slice A b.length c)), (2, .v (.int .u16 0)), (3, .v (.int .i64 q)), (4, .v (.int .i64 i)), (5, .v (.int .i64 ((b.getD ((i).toNat) 0) * 256))), (19, .v (.int .i64 (IntKind.i64.wrap (i + 1))))], []⟩ (by kernel_rfl) ?_
    refine X.known 19 (y := .v (.int .i64 (i + 1))) rfl (congrArg (fun z_ => AV.v (.int .i64 z_)) (wi64 (by omega) (by omega))) ?_
    refine X.run 5 [0, 2, 3, 4, 5, 22] [] (.code (cA B29 [1, 1, 0, 1, 0, 0, 1, 0, 0, 1, 0, 1])) [.seq (cA B29 [1, 1, 0, 1, 0, 0, 1, 0, 0, 1, 1]), .blk 1, .seq (cA B29 [1, 1, 0, 1, 0, 0, 1, 1]), .loop J1, .blk 0, .seq (cA B29 [1, 1, 1])] ⟨42, [(0, .v (.slice A b.length c)), (2, .v (.int .u16 0)), (3, .v (.int .i64 q)), (4, .v (.int .i64 i)), (5, .v (.int .i64 ((b.getD ((i).toNat) 0) * 256))), (22, .v (.bool (decide (i + 1 < ((b.length : Nat) : Int)))))], []⟩ (by kernel_rfl) ?_
    refine X.split 22 rfl (fun h6 => ?_) (fun h6 => ?_)
    · -- slot 22: decide (i + 1 < ((b.length : Nat) : Int)) is True
      replace h6 : i + 1 < ((b.length : Nat) : Int) := of_decide_eq_true h6
      refine X.run 6 [0, 2, 3, 4, 5, 23, 24, 26] [] (.ops (aA B29 [1, 1, 0, 1, 0, 0, 1, 0, 0, 1, 0, 1, 0]) (oA B29 [1, 1, 0, 1, 0, 0, 1, 0, 0, 1, 0, 1, 0] 4 :: lA B29 [1, 1, 0, 1, 0, 0, 1, 0, 0, 1, 0, 1, 0] 5)) [.seq (cA B29 [1, 1, 0, 1, 0, 0, 1, 0, 0, 1, 1]), .blk 1, .seq (cA B29 [1, 1, 0, 1, 0, 0, 1, 1]), .loop J1, .blk 0, .seq (cA B29 [1, 1, 1])] ⟨42, [(0, .v (.slice A b.length c)), (2, .v (.int .u16 0)), (3, .v (.int .i64 q)), (4, .v (.int .i64 i)), (5, .v (.int .i64 ((b.getD ((i).toNat) 0) * 256))), (23, .v (.int .i64 ((b.getD ((i).toNat) 0) * 256))), (24, .v (.slice A b.length c)), (26, .v (.int .i64 (IntKind.i64.wrap (i + 1))))], []⟩ (by kernel_rfl) ?_
      refine X.known 26 (y := .v (.int .i64 (i + 1))) rfl (congrArg (fun z_ => AV.v (.int .i64 z_)) (wi64 (by omega) (by omega))) ?_
      have b7 : (0 : Int) ≤ i + 1 := by omega
      have b8 : i + 1 < ((b.length : Nat) : Int) := by omega
      refine X.index (t := 22) (e := 5) (sz := 1) (A := A) (n := b.length) (c := c) (ki := .i64) (i := i + 1) (x := .tmp 24) (ix := .tmp 26) (by kernel_rfl) (by kernel_rfl) (by kernel_rfl) (by kernel_rfl) (by kernel_rfl) (by kernel_rfl) b7 b8 (fun _ _ => rowAt.so hb (by omega)) ?_
      obtain ⟨at9, lo9, hi9⟩ := At.int [] hb ((i + 1).toNat) (by omega)
      simp only [IntKind.lo, IntKind.hi] at lo9 hi9
      refine X.run 0 [0, 2, 3, 4, 5, 23, 27] [] (.ops (aA B29 [1, 1, 0, 1, 0, 0, 1, 0, 0, 1, 0, 1, 0]) (oA B29 [1, 1, 0, 1, 0, 0, 1, 0, 0, 1, 0, 1, 0] 5 :: lA B29 [1, 1, 0, 1, 0, 0, 1, 0, 0, 1, 0, 1, 0] 6)) [.seq (cA B29 [1, 1, 0, 1, 0, 0, 1, 0, 0, 1, 1]), .blk 1, .seq (cA B29 [1, 1, 0, 1, 0, 0, 1, 1]), .loop J1, .blk 0, .seq (cA B29 [1, 1, 1])] ⟨42, [(0, .v (.slice A b.length c)), (2, .v (.int .u16 0)), (3, .v (.int .i64 q)), (4, .v (.int .i64 i)), (5, .v (.int .i64 ((b.getD ((i).toNat) 0) * 256))), (23, .v (.int .i64 ((b.getD ((i).toNat) 0) * 256))), (27, .v (elt A ((i + 1).toNat * 1)))], []⟩ (by kernel_rfl) ?_
      refine X.load (t := 5) (A := A) (j := (i + 1).toNat * 1) (x := .tmp 27) (z := .int .u8 (b.getD ((i + 1).toNat) 0)) [.int .u8 (b.getD ((i + 1).toNat) 0)] (by kernel_rfl) (by kernel_rfl) at9 (by kernel_rfl) (by kernel_rfl) ?_
      refine X.run 1 [0, 2, 3, 4, 5, 23, 29] [] (.ops (aA B29 [1, 1, 0, 1, 0, 0, 1, 0, 0, 1, 0, 1, 0]) (oA B29 [1, 1, 0, 1, 0, 0, 1, 0, 0, 1, 0, 1, 0] 7 :: lA B29 [1, 1, 0, 1, 0, 0, 1, 0, 0, 1, 0, 1, 0] 8)) [.seq (cA B29 [1, 1, 0, 1, 0, 0, 1, 0, 0, 1, 1]), .blk 1, .seq (cA B29 [1, 1, 0, 1, 0, 0, 1, 1]), .loop J1, .blk 0, .seq (cA B29 [1, 1, 1])] ⟨42, [(0, .v (.slice A b.length c)), (2, .v (.int .u16 0)), (3, .v (.int .i64 q)), (4, .v (.int .i64 i)), (5, .v (.int .i64 ((b.getD ((i).toNat) 0) * 256))), (23, .v (.int .i64 ((b.getD ((i).toNat) 0) * 256))), (29, .v (.int .i64 (IntKind.i64.wrap (b.getD ((i + 1).toNat) 0))))], []⟩ (by kernel_rfl) ?_
      refine X.known 29 (y := .v (.int .i64 (b.getD ((i + 1).toNat) 0))) rfl (congrArg (fun z_ => AV.v (.int .i64 z_)) (wi64 (by omega) (by omega))) ?_
      refine X.run 1 [0, 2, 3, 4, 5, 30] [] (.ops (aA B29 [1, 1, 0, 1, 0, 0, 1, 0, 0, 1, 0, 1, 0]) (oA B29 [1, 1, 0, 1, 0, 0, 1, 0, 0, 1, 0, 1, 0] 8 :: lA B29 [1, 1, 0, 1, 0, 0, 1, 0, 0, 1, 0, 1, 0] 9)) [.seq (cA B29 [1, 1, 0, 1, 0, 0, 1, 0, 0, 1, 1]), .blk 1, .seq (cA B29 [1, 1, 0, 1, 0, 0, 1, 1]), .loop J1, .blk 0, .seq (cA B29 [1, 1, 1])] ⟨42, [(0, .v (.slice A b.length c)), (2, .v (.int .u16 0)), (3, .v (.int .i64 q)), (4, .v (.int .i64 i)), (5, .v (.int .i64 ((b.getD ((i).toNat) 0) * 256))), (30, .v (.int .i64 (IntKind.i64.wrap (((b.getD ((i).toNat) 0) * 256) + (b.getD ((i + 1).toNat) 0)))))], []⟩ (by kernel_rfl) ?_
      refine X.known 30 (y := .v (.int .i64 (((b.getD ((i).toNat) 0) * 256) + (b.getD ((i + 1).toNat) 0)))) rfl (congrArg (fun z_ => AV.v (.int .i64 z_)) (wi64 (by omega) (by omega))) ?_
      refine X.run 8 [0, 2, 3, 4, 33] [] (.ops (aA B29 [1, 1, 0, 1, 0, 0, 1, 0, 0, 1, 1, 0]) (oA B29 [1, 1, 0, 1, 0, 0, 1, 0, 0, 1, 1, 0] 3 :: lA B29 [1, 1, 0, 1, 0, 0, 1, 0, 0, 1, 1, 0] 4)) [.seq (cA B29 [1, 1, 0, 1, 0, 0, 1, 0, 0, 1, 1, 1]), .blk 1, .seq (cA B29 [1, 1, 0, 1, 0, 0, 1, 1]), .loop J1, .blk 0, .seq (cA B29 [1, 1, 1])] ⟨42, [(0, .v (.slice A b.length c)), (2, .v (.int .u16 0)), (3, .v (.int .i64 q)), (4, .v (.int .i64 i)), (33, .v (.int .i64 (IntKind.i64.wrap (q + (((b.getD ((i).toNat) 0) * 256) + (b.getD ((i + 1).toNat) 0))))))], []⟩ (by kernel_rfl) ?_
      refine X.known 33 (y := .v (.int .i64 (q + (((b.getD ((i).toNat) 0) * 256) + (b.getD ((i + 1).toNat) 0))))) rfl (congrArg (fun z_ => AV.v (.int .i64 z_)) (wi64 (by omega) (by omega))) ?_
      refine X.run 9 [0, 2, 3, 4, 35] [] (.code (cA B29 [1, 1, 0, 1, 0, 0, 1, 0, 0, 1, 1, 1, 1])) [.blk 1, .seq (cA B29 [1, 1, 0, 1, 0, 0, 1, 1]), .loop J1, .blk 0, .seq (cA B29 [1, 1, 1])] ⟨42, [(0, .v (.slice A b.length c)), (2, .v (.int .u16 0)), (3, .v (.int .i64 (q + (((b.getD ((i).toNat) 0) * 256) + (b.getD ((i + 1).toNat) 0))))), (4, .v (.int .i64 i)), (35, .v (.bool (decide (q + (((b.getD ((i).toNat) 0) * 256) + (b.getD ((i + 1).toNat) 0)) > 65535))))], []⟩ (by kernel_rfl) ?_
      refine X.split 35 rfl (fun h10 => ?_) (fun h10 => ?_)
      · -- slot 35: decide (q + (((b.getD ((i).toNat) 0) * 256) + (b.getD ((i + 1).toNat) 0)) > 65535) is True
        replace h10 : q + (((b.getD ((i).toNat) 0) * 256) + (b.getD ((i + 1).toNat) 0)) > 65535 := of_decide_eq_true h10
        refine X.run 4 [0, 2, 3, 4, 37] [] (.ops (aA B29 [1, 1, 0, 1, 0, 0, 1, 0, 0, 1, 1, 1, 1, 0]) (oA B29 [1, 1, 0, 1, 0, 0, 1, 0, 0, 1, 1, 1, 1, 0] 2 :: lA B29 [1, 1, 0, 1, 0, 0, 1, 0, 0, 1, 1, 1, 1, 0] 3)) [.blk 1, .seq (cA B29 [1, 1, 0, 1, 0, 0, 1, 1]), .loop J1, .blk 0, .seq (cA B29 [1, 1, 1])] ⟨42, [(0, .v (.slice A b.length c)), (2, .v (.int .u16 0)), (3, .v (.int .i64 (q + (((b.getD ((i).toNat) 0) * 256) + (b.getD ((i + 1).toNat) 0))))), (4, .v (.int .i64 i)), (37, .v (.int .i64 (IntKind.i64.wrap ((q + (((b.getD ((i).toNat) 0) * 256) + (b.getD ((i + 1).toNat) 0))) - 65536))))], []⟩ (by kernel_rfl) ?_
        refine X.known 37 (y := .v (.int .i64 ((q + (((b.getD ((i).toNat) 0) * 256) + (b.getD ((i + 1).toNat) 0))) - 65536))) rfl (congrArg (fun z_ => AV.v (.int .i64 z_)) (wi64 (by omega) (by omega))) ?_
        refine X.run 1 [0, 2, 3, 4, 38] [] (.ops (aA B29 [1, 1, 0, 1, 0, 0, 1, 0, 0, 1, 1, 1, 1, 0]) (oA B29 [1, 1, 0, 1, 0, 0, 1, 0, 0, 1, 1, 1, 1, 0] 3 :: lA B29 [1, 1, 0, 1, 0, 0, 1, 0, 0, 1, 1, 1, 1, 0] 4)) [.blk 1, .seq (cA B29 [1, 1, 0, 1, 0, 0, 1, 1]), .loop J1, .blk 0, .seq (cA B29 [1, 1, 1])] ⟨42, [(0, .v (.slice A b.length c)), (2, .v (.int .u16 0)), (3, .v (.int .i64 (q + (((b.getD ((i).toNat) 0) * 256) + (b.getD ((i + 1).toNat) 0))))), (4, .v (.int .i64 i)), (38, .v (.int .i64 (IntKind.i64.wrap (((q + (((b.getD ((i).toNat) 0) * 256) + (b.getD ((i + 1).toNat) 0))) - 65536) + 1))))], []⟩ (by kernel_rfl) ?_
        refine X.known 38 (y := .v (.int .i64 (((q + (((b.getD ((i).toNat) 0) * 256) + (b.getD ((i + 1).toNat) 0))) - 65536) + 1))) rfl (congrArg (fun z_ => AV.v (.int .i64 z_)) (wi64 (by omega) (by omega))) ?_
        refine X.run 7 [0, 2, 3, 4, 11] [] (.ops (aA B29 [1, 1, 0, 1, 0, 0, 1, 1]) (oA B29 [1, 1, 0, 1, 0, 0, 1, 1] 2 :: lA B29 [1, 1, 0, 1, 0, 0, 1, 1] 3)) [.loop J1, .blk 0, .seq (cA B29 [1, 1, 1])] ⟨42, [(0, .v (.slice A b.length c)), (2, .v (.int .u16 0)), (3, .v (.int .i64 (((q + (((b.getD ((i).toNat) 0) * 256) + (b.getD ((i + 1).toNat) 0))) - 65536) + 1))), (4, .v (.int .i64 i)), (11, .v (.int .i64 (IntKind.i64.wrap (i + 2))))], []⟩ (by kernel_rfl) ?_
        refine X.known 11 (y := .v (.int .i64 (i + 2))) rfl (congrArg (fun z_ => AV.v (.int .i64 z_)) (wi64 (by omega) (by omega))) ?_
        refine X.run 2 [0, 2, 3, 4] [] (.ex .normal) [.loop J1, .blk 0, .seq (cA B29 [1, 1, 1])] ⟨42, [(0, .v (.slice A b.length c)), (2, .v (.int .u16 0)), (3, .v (.int .i64 (((q + (((b.getD ((i).toNat) 0) * 256) + (b.getD ((i + 1).toNat) 0))) - 65536) + 1))), (4, .v (.int .i64 (i + 2)))], []⟩ (by kernel_rfl) ?_
        -- again (TTT)
        have e1 : (i + 1).toNat = i.toNat + 1 := by omega
        have e2 : (i + 2).toNat = i.toNat + 2 := by omega
        have w1 := wsum_at (l := b) (j := i.toNat) (by omega) false
        have w2 := wsum_at (l := b) (j := i.toNat + 1) (by omega) true
        rw [show i.toNat + 1 + 1 = i.toNat + 2 from rfl] at w2
        simp only [Bool.false_eq_true, if_true, if_false, Bool.not_true, Bool.not_false] at w1 w2
        have hb2 := (wsum_bounds _ false (bytes_drop hby (i.toNat + 2))).1
        have e3 : (((q + (((b.getD ((i).toNat) 0) * 256) + (b.getD ((i + 1).toNat) 0))) - 65536) + 1) + wsum false (b.drop (i.toNat + 2)) = q + wsum false (b.drop i.toNat) - 65536 + 1 := by rw [w1, w2, e1]; omega
        exact X.again (hJ1 _ _ _ _ ⟨((q + (((b.getD ((i).toNat) 0) * 256) + (b.getD ((i + 1).toNat) 0))) - 65536) + 1, i + 2, rfl, rfl, rfl, ⟨by omega, by omega, by omega, by omega, by rw [e2, e3, fold16_sub (by omega)]; exact hi4⟩, rfl⟩ (by omega))
      · -- slot 35: decide (q + (((b.getD ((i).toNat) 0) * 256) + (b.getD ((i + 1).toNat) 0)) > 65535) is False
        replace h10 : ¬ (q + (((b.getD ((i).toNat) 0) * 256) + (b.getD ((i + 1).toNat) 0)) > 65535) := of_decide_eq_false h10
        refine X.run 7 [0, 2, 3, 4, 11] [] (.ops (aA B29 [1, 1, 0, 1, 0, 0, 1, 1]) (oA B29 [1, 1, 0, 1, 0, 0, 1, 1] 2 :: lA B29 [1, 1, 0, 1, 0, 0, 1, 1] 3)) [.loop J1, .blk 0, .seq (cA B29 [1, 1, 1])] ⟨42, [(0, .v (.slice A b.length c)), (2, .v (.int .u16 0)), (3, .v (.int .i64 (q + (((b.getD ((i).toNat) 0) * 256) + (b.getD ((i + 1).toNat) 0))))), (4, .v (.int .i64 i)), (11, .v (.int .i64 (IntKind.i64.wrap (i + 2))))], []⟩ (by kernel_rfl) ?_
        refine X.known 11 (y := .v (.int .i64 (i + 2))) rfl (congrArg (fun z_ => AV.v (.int .i64 z_)) (wi64 (by omega) (by omega))) ?_
        refine X.run 2 [0, 2, 3, 4] [] (.ex .normal) [.loop J1, .blk 0, .seq (cA B29 [1, 1, 1])] ⟨42, [(0, .v (.slice A b.length c)), (2, .v (.int .u16 0)), (3, .v (.int .i64 (q + (((b.getD ((i).toNat) 0) * 256) + (b.getD ((i + 1).toNat) 0))))), (4, .v (.int .i64 (i + 2)))], []⟩ (by kernel_rfl) ?_
        -- again (TTF)
        have e1 : (i + 1).toNat = i.toNat + 1 := by omega
        have e2 : (i + 2).toNat = i.toNat + 2 := by omega
        have w1 := wsum_at (l := b) (j := i.toNat) (by omega) false
        have w2 := wsum_at (l := b) (j := i.toNat + 1) (by omega) true
        rw [show i.toNat + 1 + 1 = i.toNat + 2 from rfl] at w2
        simp only [Bool.false_eq_true, if_true, if_false, Bool.not_true, Bool.not_false] at w1 w2
        have hb2 := (wsum_bounds _ false (bytes_drop hby (i.toNat + 2))).1
        have e3 : (q + (((b.getD ((i).toNat) 0) * 256) + (b.getD ((i + 1).toNat) 0))) + wsum false (b.drop (i.toNat + 2)) = q + wsum false (b.drop i.toNat) := by rw [w1, w2, e1]; omega
        exact X.again (hJ1 _ _ _ _ ⟨q + (((b.getD ((i).toNat) 0) * 256) + (b.getD ((i + 1).toNat) 0)), i + 2, rfl, rfl, rfl, ⟨by omega, by omega, by omega, by omega, by rw [e2, e3]; exact hi4⟩, rfl⟩ (by omega))
    · -- slot 22: decide (i + 1 < ((b.length : Nat) : Int)) is False
      replace h6 : ¬ (i + 1 < ((b.length : Nat) : Int)) := of_decide_eq_false h6
      refine X.run 8 [0, 2, 3, 4, 33] [] (.ops (aA B29 [1, 1, 0, 1, 0, 0, 1, 0, 0, 1, 1, 0]) (oA B29 [1, 1, 0, 1, 0, 0, 1, 0, 0, 1, 1, 0] 3 :: lA B29 [1, 1, 0, 1, 0, 0, 1, 0, 0, 1, 1, 0] 4)) [.seq (cA B29 [1, 1, 0, 1, 0, 0, 1, 0, 0, 1, 1, 1]), .blk 1, .seq (cA B29 [1, 1, 0, 1, 0, 0, 1, 1]), .loop J1, .blk 0, .seq (cA B29 [1, 1, 1])] ⟨42, [(0, .v (.slice A b.length c)), (2, .v (.int .u16 0)), (3, .v (.int .i64 q)), (4, .v (.int .i64 i)), (33, .v (.int .i64 (IntKind.i64.wrap (q + ((b.getD ((i).toNat) 0) * 256)))))], []⟩ (by kernel_rfl) ?_
      refine X.known 33 (y := .v (.int .i64 (q + ((b.getD ((i).toNat) 0) * 256)))) rfl (congrArg (fun z_ => AV.v (.int .i64 z_)) (wi64 (by omega) (by omega))) ?_
      refine X.run 9 [0, 2, 3, 4, 35] [] (.code (cA B29 [1, 1, 0, 1, 0, 0, 1, 0, 0, 1, 1, 1, 1])) [.blk 1, .seq (cA B29 [1, 1, 0, 1, 0, 0, 1, 1]), .loop J1, .blk 0, .seq (cA B29 [1, 1, 1])] ⟨42, [(0, .v (.slice A b.length c)), (2, .v (.int .u16 0)), (3, .v (.int .i64 (q + ((b.getD ((i).toNat) 0) * 256)))), (4, .v (.int .i64 i)), (35, .v (.bool (decide (q + ((b.getD ((i).toNat) 0) * 256) > 65535))))], []⟩ (by kernel_rfl) ?_
      refine X.split 35 rfl (fun h11 => ?_) (fun h11 => ?_)
      · -- slot 35: decide (q + ((b.getD ((i).toNat) 0) * 256) > 65535) is True
        replace h11 : q + ((b.getD ((i).toNat) 0) * 256) > 65535 := of_decide_eq_true h11
        refine X.run 4 [0, 2, 3, 4, 37] [] (.ops (aA B29 [1, 1, 0, 1, 0, 0, 1, 0, 0, 1, 1, 1, 1, 0]) (oA B29 [1, 1, 0, 1, 0, 0, 1, 0, 0, 1, 1, 1, 1, 0] 2 :: lA B29 [1, 1, 0, 1, 0, 0, 1, 0, 0, 1, 1, 1, 1, 0] 3)) [.blk 1, .seq (cA B29 [1, 1, 0, 1, 0, 0, 1, 1]), .loop J1, .blk 0, .seq (cA B29 [1, 1, 1])] ⟨42, [(0, .v (.slice A b.length c)), (2, .v (.int .u16 0)), (3, .v (.int .i64 (q + ((b.getD ((i).toNat) 0) * 256)))), (4, .v (.int .i64 i)), (37, .v (.int .i64 (IntKind.i64.wrap ((q + ((b.getD ((i).toNat) 0) * 256)) - 65536))))], []⟩ (by kernel_rfl) ?_
        refine X.known 37 (y := .v (.int .i64 ((q + ((b.getD ((i).toNat) 0) * 256)) - 65536))) rfl (congrArg (fun z_ => AV.v (.int .i64 z_)) (wi64 (by omega) (by omega))) ?_
        refine X.run 1 [0, 2, 3, 4, 38] [] (.ops (aA B29 [1, 1, 0, 1, 0, 0, 1, 0, 0, 1, 1, 1, 1, 0]) (oA B29 [1, 1, 0, 1, 0, 0, 1, 0, 0, 1, 1, 1, 1, 0] 3 :: lA B29 [1, 1, 0, 1, 0, 0, 1, 0, 0, 1, 1, 1, 1, 0] 4)) [.blk 1, .seq (cA B29 [1, 1, 0, 1, 0, 0, 1, 1]), .loop J1, .blk 0, .seq (cA B29 [1, 1, 1])] ⟨42, [(0, .v (.slice A b.length c)), (2, .v (.int .u16 0)), (3, .v (.int .i64 (q + ((b.getD ((i).toNat) 0) * 256)))), (4, .v (.int .i64 i)), (38, .v (.int .i64 (IntKind.i64.wrap (((q + ((b.getD ((i).toNat) 0) * 256)) - 65536) + 1))))], []⟩ (by kernel_rfl) ?_
        refine X.known 38 (y := .v (.int .i64 (((q + ((b.getD ((i).toNat) 0) * 256)) - 65536) + 1))) rfl (congrArg (fun z_ => AV.v (.int .i64 z_)) (wi64 (by omega) (by omega))) ?_
        refine X.run 7 [0, 2, 3, 4, 11] [] (.ops (aA B29 [1, 1, 0, 1, 0, 0, 1, 1]) (oA B29 [1, 1, 0, 1, 0, 0, 1, 1] 2 :: lA B29 [1, 1, 0, 1, 0, 0, 1, 1] 3)) [.loop J1, .blk 0, .seq (cA B29 [1, 1, 1])] ⟨42, [(0, .v (.slice A b.length c)), (2, .v (.int .u16 0)), (3, .v (.int .i64 (((q + ((b.getD ((i).toNat) 0) * 256)) - 65536) + 1))), (4, .v (.int .i64 i)), (11, .v (.int .i64 (IntKind.i64.wrap (i + 2))))], []⟩ (by kernel_rfl) ?_
        refine X.known 11 (y := .v (.int .i64 (i + 2))) rfl (congrArg (fun z_ => AV.v (.int .i64 z_)) (wi64 (by omega) (by omega))) ?_
        refine X.run 2 [0, 2, 3, 4] [] (.ex .normal) [.loop J1, .blk 0, .seq (cA B29 [1, 1, 1])] ⟨42, [(0, .v (.slice A b.length c)), (2, .v (.int .u16 0)), (3, .v (.int .i64 (((q + ((b.getD ((i).toNat) 0) * 256)) - 65536) + 1))), (4, .v (.int .i64 (i + 2)))], []⟩ (by kernel_rfl) ?_
        -- again (TFT)
        have e1 : (i + 1).toNat = i.toNat + 1 := by omega
        have e2 : (i + 2).toNat = i.toNat + 2 := by omega
        have w1 := wsum_at (l := b) (j := i.toNat) (by omega) false
        have w2 := wsum_end (l := b) (j := i.toNat + 1) (by omega) true
        have w3 := wsum_end (l := b) (j := i.toNat + 2) (by omega) false
        simp only [Bool.false_eq_true, if_true, if_false, Bool.not_true, Bool.not_false] at w1 w2
        have hb2 := (wsum_bounds _ false (bytes_drop hby (i.toNat + 2))).1
        have e3 : (((q + ((b.getD ((i).toNat) 0) * 256)) - 65536) + 1) + wsum false (b.drop (i.toNat + 2)) = q + wsum false (b.drop i.toNat) - 65536 + 1 := by rw [w1, w2, w3]; omega
        exact X.again (hJ1 _ _ _ _ ⟨((q + ((b.getD ((i).toNat) 0) * 256)) - 65536) + 1, i + 2, rfl, rfl, rfl, ⟨by omega, by omega, by omega, by omega, by rw [e2, e3, fold16_sub (by omega)]; exact hi4⟩, rfl⟩ (by omega))
      · -- slot 35: decide (q + ((b.getD ((i).toNat) 0) * 256) > 65535) is False
        replace h11 : ¬ (q + ((b.getD ((i).toNat) 0) * 256) > 65535) := of_decide_eq_false h11
        refine X.run 7 [0, 2, 3, 4, 11] [] (.ops (aA B29 [1, 1, 0, 1, 0, 0, 1, 1]) (oA B29 [1, 1, 0, 1, 0, 0, 1, 1] 2 :: lA B29 [1, 1, 0, 1, 0, 0, 1, 1] 3)) [.loop J1, .blk 0, .seq (cA B29 [1, 1, 1])] ⟨42, [(0, .v (.slice A b.length c)), (2, .v (.int .u16 0)), (3, .v (.int .i64 (q + ((b.getD ((i).toNat) 0) * 256)))), (4, .v (.int .i64 i)), (11, .v (.int .i64 (IntKind.i64.wrap (i + 2))))], []⟩ (by kernel_rfl) ?_
        refine X.known 11 (y := .v (.int .i64 (i + 2))) rfl (congrArg (fun z_ => AV.v (.int .i64 z_)) (wi64 (by omega) (by omega))) ?_
        refine X.run 2 [0, 2, 3, 4] [] (.ex .normal) [.loop J1, .blk 0, .seq (cA B29 [1, 1, 1])] ⟨42, [(0, .v (.slice A b.length c)), (2, .v (.int .u16 0)), (3, .v (.int .i64 (q + ((b.getD ((i).toNat) 0) * 256)))), (4, .v (.int .i64 (i + 2)))], []⟩ (by kernel_rfl) ?_
        -- again (TFF)
        have e1 : (i + 1).toNat = i.toNat + 1 := by omega
        have e2 : (i + 2).toNat = i.toNat + 2 := by omega
        have w1 := wsum_at (l := b) (j := i.toNat) (by omega) false
        have w2 := wsum_end (l := b) (j := i.toNat + 1) (by omega) true
        have w3 := wsum_end (l := b) (j := i.toNat + 2) (by omega) false
        simp only [Bool.false_eq_true, if_true, if_false, Bool.not_true, Bool.not_false] at w1 w2
        have hb2 := (wsum_bounds _ false (bytes_drop hby (i.toNat + 2))).1
        have e3 : (q + ((b.getD ((i).toNat) 0) * 256)) + wsum false (b.drop (i.toNat + 2)) = q + wsum false (b.drop i.toNat) := by rw [w1, w2, w3]; omega
        exact X.again (hJ1 _ _ _ _ ⟨q + ((b.getD ((i).toNat) 0) * 256), i + 2, rfl, rfl, rfl, ⟨by omega, by omega, by omega, by omega, by rw [e2, e3]; exact hi4⟩, rfl⟩ (by omega))
  · -- slot 9: decide (i < ((b.length : Nat) : Int)) is False
    replace h2 : ¬ (i < ((b.length : Nat) : Int)) := of_decide_eq_false h2
    refine X.run 10 [2, 40] [] (.ops (aA B29 [1, 1, 1, 0]) (oA B29 [1, 1, 1, 0] 2 :: lA B29 [1, 1, 1, 0] 3)) [.seq (cA B29 [1, 1, 1, 1])] ⟨42, [(2, .v (.int .u16 0)), (40, .v (.int .i64 (IntKind.i64.wrap (65535 - q))))], []⟩ (by kernel_rfl) ?_
    refine X.known 40 (y := .v (.int .i64 (65535 - q))) rfl (congrArg (fun z_ => AV.v (.int .i64 z_)) (wi64 (by omega) (by omega))) ?_
    refine X.run 2 [2] [] (.ops (aA B29 [1, 1, 1, 0]) ([])) [.seq (cA B29 [1, 1, 1, 1])] ⟨42, [(2, .v (.int .u16 (IntKind.u16.wrap (65535 - q))))], []⟩ (by kernel_rfl) ?_
    refine X.known 2 (y := .v (.int .u16 (65535 - q))) rfl (congrArg (fun z_ => AV.v (.int .u16 z_)) (wu16 (by omega) (by omega))) ?_
    refine X.run 3 [2] [] (.ex .ret) [] ⟨42, [(2, .v (.int .u16 (65535 - q)))], []⟩ (by kernel_rfl) ?_
    refine doneG (.inl rfl) [.int .u16 (65535 - q)] [] (by kernel_rfl) rfl rfl (Ge.refl _ _) ?_
    -- end 1 (F)
    refine ⟨?_, rfl⟩
    rw [wsum_end (by omega), Int.add_zero, fold16_small hi2 hi3] at hi4
    unfold cks
    rw [← hi4]
    rfl

/-- leat/sum.Verify -/
noncomputable def B30 : Code := bodyOf Try.f30
set_option maxHeartbeats 1000000 in
theorem Verify_ok (A : Option Addr) (c : Nat) (ps : List (List Int)) (G : Mem) (hps : rowAt (D.slice (D.int .u8)) G A ps) (hn : ps.length ≤ 1000000) (hT : wsum false ps.flatten ≤ 1152921504606846976) : CallsG Try.prog 30 [.slice A ps.length c] G (fun _ v rows => v = .bool (cks ps.flatten == 0) ∧ rows = []) := by
  refine CallsG.enter Try.func30 rfl rfl ?_
  intro w
  refine X.run 8 [2, 3] [] (.ops (aA B30 [1, 0]) (oA B30 [1, 0] 1 :: lA B30 [1, 0] 2)) [.seq (cA B30 [1, 1])] ⟨6, [(2, .v (.bool false)), (3, .v (.slice A ps.length c))], []⟩ (by kernel_rfl) ?_
  refine X.callG (f := 28) (l := [.v (.slice A ps.length c)]) [.slice A ps.length c] 0 (by kernel_rfl) (by kernel_rfl) (by kernel_rfl) (Sum_ok _ _ _ _ hps hn hT) ?_
  rintro v1 G1 rows1 hG1 ⟨rfl, rfl⟩
  replace hps := hps.mono hG1.le
  refine X.run 5 [2] [] (.ex .ret) [] ⟨6, [(2, .v (.bool ((cks ps.flatten) == 0)))], []⟩ (by kernel_rfl) ?_
  refine doneG (.inl rfl) [.bool ((cks ps.flatten) == 0)] [] (by kernel_rfl) rfl rfl (hG1) ?_
  -- end 1 ()
  exact ⟨rfl, rfl⟩

/-- leat/leatlaw10.works -/
noncomputable def B31 : Code := bodyOf Try.f31
set_option maxHeartbeats 1000000 in
theorem works10_ok (G : Mem) : CallsG Try.prog 31 [] G (fun _ v rows => v = .bool true ∧ rows = []) := by
  refine CallsG.enter Try.func31 rfl rfl ?_
  intro w
  refine X.run 7 [0] [] (.ops (aA B31 [1, 0]) (oA B31 [1, 0] 0 :: lA B31 [1, 0] 1)) [.seq (cA B31 [1, 1])] ⟨5, [(0, .v (.bool false))], []⟩ (by kernel_rfl) ?_
  refine X.lit 1 5 1 8 [.int .u8 0, .int .u8 1, .int .u8 242, .int .u8 3, .int .u8 244, .int .u8 245, .int .u8 246, .int .u8 247] (by kernel_rfl) (fun g => by kernel_rfl) ?_
  intro A1
  refine X.lit 2 22 1 1 [.slice A1 8 8] (by kernel_rfl) (fun g => by kernel_rfl) ?_
  intro A2
  refine X.run 0 [0, 2] [] (.ops (aA B31 [1, 0]) (oA B31 [1, 0] 2 :: lA B31 [1, 0] 3)) [.seq (cA B31 [1, 1])] ⟨5, [(0, .v (.bool false)), (2, .v (.slice A2 1 1))], []⟩ (by kernel_rfl) ?_
  have hb_ : isBytes ([0, 1, 242, 3, 244, 245, 246, 247] : List Int) := by unfold isBytes; decide
  refine X.callV (f := 28) (l := [.v (.slice A2 1 1)]) (Q := fun v_ => v_ = .int .u16 (cks ([0, 1, 242, 3, 244, 245, 246, 247] : List Int))) [.slice A2 1 1] (by kernel_rfl) (by kernel_rfl) (by kernel_rfl) (fun G1_ hl_ hr_ => (Sum_ok _ _ [[0, 1, 242, 3, 244, 245, 246, 247]] G1_ (rowLit (hr_ 2 _ rfl) ⟨_, _, rfl, rep_slice (xs := [0, 1, 242, 3, 244, 245, 246, 247]) (c := 8) (by decide) (by decide) (rowLit (hr_ 1 _ rfl) (reps_ints hb_) (by decide)), rfl⟩ (by decide)) (by decide) (by decide)).mono (fun _ _ _ _ h_ => by rw [h_.1]; rfl)) ?_
  rintro _ rfl
  refine X.run 5 [0] [] (.ex .ret) [] ⟨5, [(0, .v (.bool ((cks ([0, 1, 242, 3, 244, 245, 246, 247] : List Int)) == 8717)))], []⟩ (by kernel_rfl) ?_
  refine doneG (.inl rfl) [.bool ((cks ([0, 1, 242, 3, 244, 245, 246, 247] : List Int)) == 8717)] [] (by kernel_rfl) rfl rfl (Ge.refl _ _) ?_
  -- end 1 ()
  exact ⟨by rw [show (cks ([0, 1, 242, 3, 244, 245, 246, 247] : List Int) == 8717) = true from by decide]; rfl, rfl⟩
end Go.Proofs.YtjgpdbkkpomhjaaX
