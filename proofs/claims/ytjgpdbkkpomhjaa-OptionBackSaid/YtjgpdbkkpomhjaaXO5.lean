/- option.Find, had -/
import Derived.Test.YtjgpdbkkpomhjaaProg
import Derived.KernelRfl
import Derived.Test.YtjgpdbkkpomhjaaXO4
namespace Go.Proofs.YtjgpdbkkpomhjaaX
open Go.RowKit
set_option linter.unusedVariables false
set_option linter.unusedSimpArgs false
set_option maxRecDepth 100000
/-- leat/leatref12.Size -/
noncomputable def B112 : Code := bodyOf Try.f112

/-- leat/leatref12.May -/
noncomputable def B121 : Code := bodyOf Try.f121

set_option maxHeartbeats 1000000 in
theorem Find_ok (A : Option Addr) (c : Nat) (xs : List Opt) (k : Int) (G : Mem) (hr : rowAt optD G A xs) (hle : xs.length ≤ c) (hmx : c ≤ maxLen) : CallsG Try.prog 51 [.slice A xs.length c, .int .i64 k] G (fun G' v rows => ∃ B c', v = .tuple #[.agg #[.int .i64 (findO xs k).1.1, .slice B (findO xs k).1.2.1.length c', .string (findO xs k).1.2.2], .bool (findO xs k).2] ∧ (findO xs k).1.2.1.length ≤ c' ∧ c' ≤ maxLen ∧ rowAt (D.int .u32) G' B (findO xs k).1.2.1 ∧ rows = []) := by
  simp only [maxLen] at hmx
  refine CallsG.enter Try.func51 rfl rfl ?_
  intro w
  refine X.run 11 [0, 4, 5, 7, 8] [3, 4] (.ops (aA B51 [1, 0]) (oA B51 [1, 0] 2 :: lA B51 [1, 0] 3)) [.seq (cA B51 [1, 1])] ⟨17, [(0, .v (.slice A xs.length c)), (4, .own 4 0), (5, .v (.bool false)), (7, .v (.slice A xs.length c)), (8, .fn 115 [(3, 0)])], [(3, ⟨3, [.v (.int .i64 k)]⟩), (4, ⟨65, [.v (.int .i64 0), .v (.slice none 0 0), .v (.string ByteArray.empty)]⟩)]⟩ (by kernel_rfl) ?_
  refine X.inline (f := 114) (l := [.v (.slice A xs.length c), .fn 115 [(3, 0)]]) (fn := Try.f114) (c := B114) (by kernel_rfl) (by kernel_rfl) Try.func114 (by kernel_rfl) ?_
  intro Q1 M1 hM1 hQ1 fin1
  refine X.run 14 [0, 1, 4, 7, 8] [1003, 1004] (.code (cA B114 [1, 0, 1, 0])) [.blk 0, .seq (cA B114 [1, 1])] ⟨19, [(0, .v (.slice A xs.length c)), (1, .fn 115 [(1003, 0)]), (4, .v (.int .i64 0)), (7, .v (.int .i64 ((xs.length : Nat) : Int))), (8, .v (.int .i64 0))], [(1003, ⟨3, [.v (.int .i64 k)]⟩), (1004, ⟨65, [.v (.int .i64 0), .v (.slice none 0 0), .v (.string ByteArray.empty)]⟩)]⟩ (by kernel_rfl) ?_
  refine X.run 0 [0, 1, 7, 8] [1003, 1004] (.code (cA B114 [1, 0, 1, 0])) [.blk 0, .seq (cA B114 [1, 1])] ⟨19, [(0, .v (.slice A xs.length c)), (1, .fn 115 [(1003, 0)]), (7, .v (.int .i64 ((xs.length : Nat) : Int))), (8, .v (.int .i64 0))], [(1003, ⟨3, [.v (.int .i64 k)]⟩), (1004, ⟨65, [.v (.int .i64 0), .v (.slice none 0 0), .v (.string ByteArray.empty)]⟩)]⟩ (by kernel_rfl) ?_
  refine X.loopJ (fun m s R' G' => ∃ (i : Int), s = ⟨19, [(0, .v (.slice A xs.length c)), (1, .fn 115 [(1003, 0)]), (7, .v (.int .i64 ((xs.length : Nat) : Int))), (8, .v (.int .i64 i))], [(1003, ⟨3, [.v (.int .i64 k)]⟩), (1004, ⟨65, [.v (.int .i64 0), .v (.slice none 0 0), .v (.string ByteArray.empty)]⟩)]⟩ ∧ R' = [] ∧ G = G' ∧ (0 ≤ i ∧ i ≤ (xs.length : Int) ∧ ∀ o ∈ xs.take i.toNat, o.1 ≠ k) ∧ m = ((xs.length : Int) - i).toNat) _ ⟨0, rfl, rfl, rfl, ⟨by omega, by omega, by simp⟩, rfl⟩ ?_
  rintro m2 s2 R2 G2 ⟨i, rfl, rfl, rfl, hF2, rfl⟩ J2 hJ2
  obtain ⟨hi0, hi1, hi2⟩ := hF2
  refine X.run 6 [0, 1, 7, 8, 9] [1003, 1004] (.code (cA B114 [1, 0, 1, 0, 0, 1, 0])) [.seq (cA B114 [1, 0, 1, 0, 0, 1, 1]), .loop J2, .blk 0, .seq (cA B114 [1, 1])] ⟨19, [(0, .v (.slice A xs.length c)), (1, .fn 115 [(1003, 0)]), (7, .v (.int .i64 ((xs.length : Nat) : Int))), (8, .v (.int .i64 i)), (9, .v (.bool (decide (i < ((xs.length : Nat) : Int)))))], [(1003, ⟨3, [.v (.int .i64 k)]⟩), (1004, ⟨65, [.v (.int .i64 0), .v (.slice none 0 0), .v (.string ByteArray.empty)]⟩)]⟩ (by kernel_rfl) ?_
  refine X.split 9 rfl (fun h3 => ?_) (fun h3 => ?_)
  · -- slot 9: decide (i < ((xs.length : Nat) : Int)) is True
    replace h3 : i < ((xs.length : Nat) : Int) := of_decide_eq_true h3
    refine X.run 16 [0, 1, 5, 7, 8, 11, 12, 13] [1003, 1004] (.ops (aA B114 [1, 0, 1, 0, 0, 1, 1, 0, 0, 1, 0]) (oA B114 [1, 0, 1, 0, 0, 1, 1, 0, 0, 1, 0] 3 :: lA B114 [1, 0, 1, 0, 0, 1, 1, 0, 0, 1, 0] 4)) [.seq (cA B114 [1, 0, 1, 0, 0, 1, 1, 0, 0, 1, 1]), .blk 1, .seq (cA B114 [1, 0, 1, 0, 0, 1, 1, 1]), .loop J2, .blk 0, .seq (cA B114 [1, 1])] ⟨19, [(0, .v (.slice A xs.length c)), (1, .fn 115 [(1003, 0)]), (5, .v (.int .i64 i)), (7, .v (.int .i64 ((xs.length : Nat) : Int))), (8, .v (.int .i64 i)), (11, .fn 115 [(1003, 0)]), (12, .v (.slice A xs.length c)), (13, .v (.int .i64 i))], [(1003, ⟨3, [.v (.int .i64 k)]⟩), (1004, ⟨65, [.v (.int .i64 0), .v (.slice none 0 0), .v (.string ByteArray.empty)]⟩)]⟩ (by kernel_rfl) ?_
    have b4 : (0 : Int) ≤ i := by omega
    have b5 : i < ((xs.length : Nat) : Int) := by omega
    refine X.index (t := 59) (e := 65) (sz := 3) (A := A) (n := xs.length) (c := c) (ki := .i64) (i := i) (x := .tmp 12) (ix := .tmp 13) (by kernel_rfl) (by kernel_rfl) (by kernel_rfl) (by kernel_rfl) (by kernel_rfl) (by kernel_rfl) b4 b5 (fun _ _ => rowAt.so hr (by omega)) ?_
    obtain ⟨A6, c6, at6, kr6, le6, mx6, hr6⟩ := At.opt [] hr ((i).toNat) (by omega)
    simp only [IntKind.lo, IntKind.hi, maxLen] at kr6 mx6
    refine X.run 0 [0, 1, 5, 7, 8, 11, 14] [1003, 1004] (.ops (aA B114 [1, 0, 1, 0, 0, 1, 1, 0, 0, 1, 0]) (oA B114 [1, 0, 1, 0, 0, 1, 1, 0, 0, 1, 0] 4 :: lA B114 [1, 0, 1, 0, 0, 1, 1, 0, 0, 1, 0] 5)) [.seq (cA B114 [1, 0, 1, 0, 0, 1, 1, 0, 0, 1, 1]), .blk 1, .seq (cA B114 [1, 0, 1, 0, 0, 1, 1, 1]), .loop J2, .blk 0, .seq (cA B114 [1, 1])] ⟨19, [(0, .v (.slice A xs.length c)), (1, .fn 115 [(1003, 0)]), (5, .v (.int .i64 i)), (7, .v (.int .i64 ((xs.length : Nat) : Int))), (8, .v (.int .i64 i)), (11, .fn 115 [(1003, 0)]), (14, .v (elt A ((i).toNat * 3)))], [(1003, ⟨3, [.v (.int .i64 k)]⟩), (1004, ⟨65, [.v (.int .i64 0), .v (.slice none 0 0), .v (.string ByteArray.empty)]⟩)]⟩ (by kernel_rfl) ?_
    refine X.load (t := 65) (A := A) (j := (i).toNat * 3) (x := .tmp 14) (z := .agg #[.int .i64 ((xs.getD ((i).toNat) opt0).1), .slice A6 ((xs.getD ((i).toNat) opt0).2.1.length) c6, .string ((xs.getD ((i).toNat) opt0).2.2)]) [.int .i64 ((xs.getD ((i).toNat) opt0).1), .slice A6 ((xs.getD ((i).toNat) opt0).2.1.length) c6, .string ((xs.getD ((i).toNat) opt0).2.2)] (by kernel_rfl) (by kernel_rfl) at6 (by kernel_rfl) (by kernel_rfl) ?_
    refine X.run 0 [0, 1, 5, 7, 8, 11, 15] [1003, 1004] (.ops (aA B114 [1, 0, 1, 0, 0, 1, 1, 0, 0, 1, 0]) (oA B114 [1, 0, 1, 0, 0, 1, 1, 0, 0, 1, 0] 5 :: lA B114 [1, 0, 1, 0, 0, 1, 1, 0, 0, 1, 0] 6)) [.seq (cA B114 [1, 0, 1, 0, 0, 1, 1, 0, 0, 1, 1]), .blk 1, .seq (cA B114 [1, 0, 1, 0, 0, 1, 1, 1]), .loop J2, .blk 0, .seq (cA B114 [1, 1])] ⟨19, [(0, .v (.slice A xs.length c)), (1, .fn 115 [(1003, 0)]), (5, .v (.int .i64 i)), (7, .v (.int .i64 ((xs.length : Nat) : Int))), (8, .v (.int .i64 i)), (11, .fn 115 [(1003, 0)]), (15, .v (.agg #[.int .i64 ((xs.getD ((i).toNat) opt0).1), .slice A6 ((xs.getD ((i).toNat) opt0).2.1.length) c6, .string ((xs.getD ((i).toNat) opt0).2.2)]))], [(1003, ⟨3, [.v (.int .i64 k)]⟩), (1004, ⟨65, [.v (.int .i64 0), .v (.slice none 0 0), .v (.string ByteArray.empty)]⟩)]⟩ (by kernel_rfl) ?_
    refine X.inline (f := 115) (l := [.v (.agg #[.int .i64 ((xs.getD ((i).toNat) opt0).1), .slice A6 ((xs.getD ((i).toNat) opt0).2.1.length) c6, .string ((xs.getD ((i).toNat) opt0).2.2)]), .own 1003 0]) (fn := Try.f115) (c := B115) (by kernel_rfl) (by kernel_rfl) Try.func115 (by kernel_rfl) ?_
    intro Q7 M7 hM7 hQ7 fin7
    refine X.run 16 [3] [2003, 2004] (.ex .ret) [] ⟨8, [(3, .v (.bool (((xs.getD ((i).toNat) opt0).1) == k)))], [(2003, ⟨3, [.v (.int .i64 k)]⟩), (2004, ⟨65, [.v (.int .i64 0), .v (.slice none 0 0), .v (.string ByteArray.empty)]⟩)]⟩ (by kernel_rfl) ?_
    refine fin7 _ _ _ _ [.bool (((xs.getD ((i).toNat) opt0).1) == k)] [(1003, ⟨3, [.v (.int .i64 k)]⟩), (1004, ⟨65, [.v (.int .i64 0), .v (.slice none 0 0), .v (.string ByteArray.empty)]⟩)] (.inl rfl) (by kernel_rfl) (by kernel_rfl) ?_
    refine X.run 2 [0, 1, 5, 7, 8, 16] [1003, 1004] (.code (cA B114 [1, 0, 1, 0, 0, 1, 1, 0, 0, 1, 1])) [.blk 1, .seq (cA B114 [1, 0, 1, 0, 0, 1, 1, 1]), .loop J2, .blk 0, .seq (cA B114 [1, 1])] ⟨19, [(0, .v (.slice A xs.length c)), (1, .fn 115 [(1003, 0)]), (5, .v (.int .i64 i)), (7, .v (.int .i64 ((xs.length : Nat) : Int))), (8, .v (.int .i64 i)), (16, .v (.bool (((xs.getD ((i).toNat) opt0).1) == k)))], [(1003, ⟨3, [.v (.int .i64 k)]⟩), (1004, ⟨65, [.v (.int .i64 0), .v (.slice none 0 0), .v (.string ByteArray.empty)]⟩)]⟩ (by kernel_rfl) ?_
    refine X.split 16 rfl (fun h8 => ?_) (fun h8 => ?_)
    · -- slot 16: ((xs.getD ((i).toNat) opt0).1) == k is True
      replace h8 : ((xs.getD ((i).toNat) opt0).1) = k := by simpa using h8
      refine X.run 13 [4] [1003, 1004] (.ex .ret) [] ⟨19, [(4, .v (.int .i64 i))], [(1003, ⟨3, [.v (.int .i64 k)]⟩), (1004, ⟨65, [.v (.int .i64 0), .v (.slice none 0 0), .v (.string ByteArray.empty)]⟩)]⟩ (by kernel_rfl) ?_
      refine fin1 _ _ _ _ [.int .i64 i] [(3, ⟨3, [.v (.int .i64 k)]⟩), (4, ⟨65, [.v (.int .i64 0), .v (.slice none 0 0), .v (.string ByteArray.empty)]⟩)] (.inl rfl) (by kernel_rfl) (by kernel_rfl) ?_
      refine X.run 10 [0, 4, 5, 6, 11] [4] (.code (cA B51 [1, 1, 0, 1])) [.seq (cA B51 [1, 1, 1])] ⟨17, [(0, .v (.slice A xs.length c)), (4, .own 4 0), (5, .v (.bool false)), (6, .v (.int .i64 i)), (11, .v (.bool (decide (i < 0))))], [(4, ⟨65, [.v (.int .i64 0), .v (.slice none 0 0), .v (.string ByteArray.empty)]⟩)]⟩ (by kernel_rfl) ?_
      refine X.isFalse 11 rfl (decide_eq_false (by omega)) ?_
      refine X.run 7 [4, 5, 13, 14] [4] (.ops (aA B51 [1, 1, 1, 0]) (oA B51 [1, 1, 1, 0] 2 :: lA B51 [1, 1, 1, 0] 3)) [.seq (cA B51 [1, 1, 1, 1])] ⟨17, [(4, .own 4 0), (5, .v (.bool false)), (13, .v (.slice A xs.length c)), (14, .v (.int .i64 i))], [(4, ⟨65, [.v (.int .i64 0), .v (.slice none 0 0), .v (.string ByteArray.empty)]⟩)]⟩ (by kernel_rfl) ?_
      have b9 : (0 : Int) ≤ i := by omega
      have b10 : i < ((xs.length : Nat) : Int) := by omega
      refine X.index (t := 59) (e := 65) (sz := 3) (A := A) (n := xs.length) (c := c) (ki := .i64) (i := i) (x := .tmp 13) (ix := .tmp 14) (by kernel_rfl) (by kernel_rfl) (by kernel_rfl) (by kernel_rfl) (by kernel_rfl) (by kernel_rfl) b9 b10 (fun _ _ => rowAt.so hr (by omega)) ?_
      obtain ⟨A11, c11, at11, kr11, le11, mx11, hr11⟩ := At.opt [] hr ((i).toNat) (by omega)
      simp only [IntKind.lo, IntKind.hi, maxLen] at kr11 mx11
      refine X.run 0 [4, 5, 15] [4] (.ops (aA B51 [1, 1, 1, 0]) (oA B51 [1, 1, 1, 0] 3 :: lA B51 [1, 1, 1, 0] 4)) [.seq (cA B51 [1, 1, 1, 1])] ⟨17, [(4, .own 4 0), (5, .v (.bool false)), (15, .v (elt A ((i).toNat * 3)))], [(4, ⟨65, [.v (.int .i64 0), .v (.slice none 0 0), .v (.string ByteArray.empty)]⟩)]⟩ (by kernel_rfl) ?_
      refine X.load (t := 65) (A := A) (j := (i).toNat * 3) (x := .tmp 15) (z := .agg #[.int .i64 ((xs.getD ((i).toNat) opt0).1), .slice A11 ((xs.getD ((i).toNat) opt0).2.1.length) c11, .string ((xs.getD ((i).toNat) opt0).2.2)]) [.int .i64 ((xs.getD ((i).toNat) opt0).1), .slice A11 ((xs.getD ((i).toNat) opt0).2.1.length) c11, .string ((xs.getD ((i).toNat) opt0).2.2)] (by kernel_rfl) (by kernel_rfl) at11 (by kernel_rfl) (by kernel_rfl) ?_
      refine X.run 5 [4, 5] [4] (.ex .ret) [] ⟨17, [(4, .own 4 0), (5, .v (.bool true))], [(4, ⟨65, [.v (.int .i64 ((xs.getD ((i).toNat) opt0).1)), .v (.slice A11 ((xs.getD ((i).toNat) opt0).2.1.length) c11), .v (.string ((xs.getD ((i).toNat) opt0).2.2))]⟩)]⟩ (by kernel_rfl) ?_
      refine doneG (.inl rfl) [.agg #[.int .i64 ((xs.getD ((i).toNat) opt0).1), .slice A11 ((xs.getD ((i).toNat) opt0).2.1.length) c11, .string ((xs.getD ((i).toNat) opt0).2.2)], .bool true] [] (by kernel_rfl) rfl rfl (Ge.refl _ _) ?_
      -- end 3 (TT)
      rw [findO_some (i := i.toNat) (by omega) hi2 (by assumption)]
      exact ⟨_, _, rfl, le11, mx11, hr11, rfl⟩
    · -- slot 16: ((xs.getD ((i).toNat) opt0).1) == k is False
      replace h8 : ((xs.getD ((i).toNat) opt0).1) ≠ k := by simpa using h8
      refine X.run 8 [0, 1, 7, 8] [1003, 1004] (.ex .normal) [.loop J2, .blk 0, .seq (cA B114 [1, 1])] ⟨19, [(0, .v (.slice A xs.length c)), (1, .fn 115 [(1003, 0)]), (7, .v (.int .i64 ((xs.length : Nat) : Int))), (8, .v (.int .i64 (IntKind.i64.wrap (i + 1))))], [(1003, ⟨3, [.v (.int .i64 k)]⟩), (1004, ⟨65, [.v (.int .i64 0), .v (.slice none 0 0), .v (.string ByteArray.empty)]⟩)]⟩ (by kernel_rfl) ?_
      -- again (TF)
      have e1 : IntKind.i64.wrap (i + 1) = i + 1 := wi64 (by omega) (by omega)
      have e0 : (i + 1).toNat = i.toNat + 1 := by omega
      exact X.again (hJ2 _ _ _ _ ⟨IntKind.i64.wrap (i + 1), rfl, rfl, rfl, ⟨by omega, by omega, by rw [e1, e0]; exact take_all (p := fun o : Opt => o.1 ≠ k) (d := opt0) hi2 (by omega) (by assumption)⟩, rfl⟩ (by rw [e1]; omega))
  · -- slot 9: decide (i < ((xs.length : Nat) : Int)) is False
    replace h3 : ¬ (i < ((xs.length : Nat) : Int)) := of_decide_eq_false h3
    refine X.run 12 [4] [1003, 1004] (.ex .ret) [] ⟨19, [(4, .v (.int .i64 (-1)))], [(1003, ⟨3, [.v (.int .i64 k)]⟩), (1004, ⟨65, [.v (.int .i64 0), .v (.slice none 0 0), .v (.string ByteArray.empty)]⟩)]⟩ (by kernel_rfl) ?_
    refine fin1 _ _ _ _ [.int .i64 (-1)] [(3, ⟨3, [.v (.int .i64 k)]⟩), (4, ⟨65, [.v (.int .i64 0), .v (.slice none 0 0), .v (.string ByteArray.empty)]⟩)] (.inl rfl) (by kernel_rfl) (by kernel_rfl) ?_
    refine X.run 20 [4, 5] [4] (.ex .ret) [] ⟨17, [(4, .own 4 0), (5, .v (.bool false))], [(4, ⟨65, [.v (.int .i64 0), .v (.slice none 0 0), .v (.string ByteArray.empty)]⟩)]⟩ (by kernel_rfl) ?_
    refine doneG (.inl rfl) [.agg #[.int .i64 0, .slice none 0 0, .string ByteArray.empty], .bool false] [] (by kernel_rfl) rfl rfl (Ge.refl _ _) ?_
    -- end 5 (F)
    rw [List.take_of_length_le (by omega)] at hi2
    rw [findO_none hi2]
    exact ⟨none, 0, rfl, by simp [opt0], by simp [maxLen], rowAt.nil _ _ _, rfl⟩

set_option maxHeartbeats 1000000 in
theorem had_ok (A : Option Addr) (c : Nat) (xs : List Opt) (k : Int) (G : Mem) (hr : rowAt optD G A xs) (hle : xs.length ≤ c) (hmx : c ≤ maxLen) : CallsG Try.prog 107 [.slice A xs.length c, .int .i64 k] G (fun _ v rows => v = .bool (hadB xs k) ∧ rows = []) := by
  refine CallsG.enter Try.func107 rfl rfl ?_
  intro w
  refine X.run 9 [1, 4, 8, 9] [] (.ops (aA B107 [1, 0]) (oA B107 [1, 0] 2 :: lA B107 [1, 0] 3)) [.seq (cA B107 [1, 1])] ⟨18, [(1, .v (.int .i64 k)), (4, .v (.bool false)), (8, .v (.slice A xs.length c)), (9, .v (.int .i64 k))], []⟩ (by kernel_rfl) ?_
  refine X.callG (f := 51) (l := [.v (.slice A xs.length c), .v (.int .i64 k)]) [.slice A xs.length c, .int .i64 k] 0 (by kernel_rfl) (by kernel_rfl) (by kernel_rfl) (Find_ok A c xs k _ hr hle hmx) ?_
  rintro v1 G1 rows1 hG1 ⟨A1, c1, rfl, hle1, hmx1, hr1, rfl⟩
  replace hr := hr.mono hG1.le
  refine X.run 12 [1, 4, 14] [] (.ops (aA B107 [1, 1, 0]) (oA B107 [1, 1, 0] 2 :: lA B107 [1, 1, 0] 3)) [.seq (cA B107 [1, 1, 1])] ⟨18, [(1, .v (.int .i64 k)), (4, .v (.bool false)), (14, .v (.bool ((findO xs k).2)))], []⟩ (by kernel_rfl) ?_
  refine X.split 14 rfl (fun h2 => ?_) (fun h2 => ?_)
  · -- slot 14: (findO xs k).2 is True
    refine X.run 1 [4, 14, 15] [] (.ops (aA B107 [1, 1, 0]) (oA B107 [1, 1, 0] 3 :: lA B107 [1, 1, 0] 4)) [.seq (cA B107 [1, 1, 1])] ⟨18, [(4, .v (.bool false)), (14, .v (.bool true)), (15, .v (.int .i64 k))], []⟩ (by kernel_rfl) ?_
    refine X.inline (f := 155) (l := [.v (.int .i64 k)]) (fn := Try.f155) (c := B155) (by kernel_rfl) (by kernel_rfl) Try.func155 (by kernel_rfl) ?_
    intro Q3 M3 hM3 hQ3 fin3
    refine X.run 8 [2, 7] [] (.ops (aA B155 [1, 0]) (oA B155 [1, 0] 1 :: lA B155 [1, 0] 2)) [.seq (cA B155 [1, 1])] ⟨14, [(2, .v (.bool false)), (7, .v (.int .i64 k))], []⟩ (by kernel_rfl) ?_
    refine X.inline (f := 108) (l := [.v (.int .i64 k)]) (fn := Try.f108) (c := B108) (by kernel_rfl) (by kernel_rfl) Try.func108 (by kernel_rfl) ?_
    intro Q4 M4 hM4 hQ4 fin4
    refine X.run 20 [2, 3, 4, 5, 6] [] (.code (cA B108 [1, 0, 1, 0, 1])) [.blk 0, .seq (cA B108 [1, 1])] ⟨13, [(2, .v (.int .i64 0)), (3, .v (.int .i64 0)), (4, .v (.int .i64 0)), (5, .v (.int .i64 k)), (6, .v (.bool (k == 2)))], []⟩ (by kernel_rfl) ?_
    refine X.split 6 rfl (fun h5 => ?_) (fun h5 => ?_)
    · -- slot 6: k == 2 is True
      replace h5 : k = 2 := by simpa using h5
      refine X.run 11 [2, 3, 4] [] (.ex .ret) [] ⟨13, [(2, .v (.int .i64 2)), (3, .v (.int .i64 1)), (4, .v (.int .i64 1))], []⟩ (by kernel_rfl) ?_
      refine fin4 _ _ _ _ [.int .i64 2, .int .i64 1, .int .i64 1] [] (.inl rfl) (by kernel_rfl) (by kernel_rfl) ?_
      refine X.run 17 [2] [] (.ex .ret) [] ⟨14, [(2, .v (.bool true))], []⟩ (by kernel_rfl) ?_
      refine fin3 _ _ _ _ [.bool true] [] (.inl rfl) (by kernel_rfl) (by kernel_rfl) ?_
      refine X.run 5 [4] [] (.ex .ret) [] ⟨18, [(4, .v (.bool true))], []⟩ (by kernel_rfl) ?_
      refine doneG (.inl rfl) [.bool true] [] (by kernel_rfl) rfl rfl (hG1) ?_
      -- end 3 (TT)
      exact ⟨congrArg Value.bool (by rw [had_find, show (findO xs k).2 = true by assumption, decide_eq_true (show 0 < szk k by rw [show k = 2 by assumption]; decide)]; rfl), rfl⟩
    · -- slot 6: k == 2 is False
      replace h5 : k ≠ 2 := by simpa using h5
      refine X.run 7 [2, 3, 4, 5, 8] [] (.code (cA B108 [1, 0, 1, 0, 1, 1, 1])) [.blk 0, .seq (cA B108 [1, 1])] ⟨13, [(2, .v (.int .i64 0)), (3, .v (.int .i64 0)), (4, .v (.int .i64 0)), (5, .v (.int .i64 k)), (8, .v (.bool (k == 8)))], []⟩ (by kernel_rfl) ?_
      refine X.split 8 rfl (fun h6 => ?_) (fun h6 => ?_)
      · -- slot 8: k == 8 is True
        replace h6 : k = 8 := by simpa using h6
        refine X.run 11 [2, 3, 4] [] (.ex .ret) [] ⟨13, [(2, .v (.int .i64 4)), (3, .v (.int .i64 2)), (4, .v (.int .i64 2))], []⟩ (by kernel_rfl) ?_
        refine fin4 _ _ _ _ [.int .i64 4, .int .i64 2, .int .i64 2] [] (.inl rfl) (by kernel_rfl) (by kernel_rfl) ?_
        refine X.run 17 [2] [] (.ex .ret) [] ⟨14, [(2, .v (.bool true))], []⟩ (by kernel_rfl) ?_
        refine fin3 _ _ _ _ [.bool true] [] (.inl rfl) (by kernel_rfl) (by kernel_rfl) ?_
        refine X.run 5 [4] [] (.ex .ret) [] ⟨18, [(4, .v (.bool true))], []⟩ (by kernel_rfl) ?_
        refine doneG (.inl rfl) [.bool true] [] (by kernel_rfl) rfl rfl (hG1) ?_
        -- end 6 (TFT)
        exact ⟨congrArg Value.bool (by rw [had_find, show (findO xs k).2 = true by assumption, decide_eq_true (show 0 < szk k by rw [show k = 8 by assumption]; decide)]; rfl), rfl⟩
      · -- slot 8: k == 8 is False
        replace h6 : k ≠ 8 := by simpa using h6
        refine X.run 8 [2, 3, 4, 5, 10] [] (.code (cA B108 [1, 0, 1, 0, 1, 1, 1, 1, 0, 1])) [.seq (cA B108 [1, 0, 1, 0, 1, 1, 1, 1, 1]), .blk 0, .seq (cA B108 [1, 1])] ⟨13, [(2, .v (.int .i64 0)), (3, .v (.int .i64 0)), (4, .v (.int .i64 0)), (5, .v (.int .i64 k)), (10, .v (.bool (k == 172)))], []⟩ (by kernel_rfl) ?_
        refine X.split 10 rfl (fun h7 => ?_) (fun h7 => ?_)
        · -- slot 10: k == 172 is True
          replace h7 : k = 172 := by simpa using h7
          refine X.run 14 [2, 3, 4] [] (.ex .ret) [] ⟨13, [(2, .v (.int .i64 3)), (3, .v (.int .i64 0)), (4, .v (.int .i64 3))], []⟩ (by kernel_rfl) ?_
          refine fin4 _ _ _ _ [.int .i64 3, .int .i64 0, .int .i64 3] [] (.inl rfl) (by kernel_rfl) (by kernel_rfl) ?_
          refine X.run 17 [2] [] (.ex .ret) [] ⟨14, [(2, .v (.bool true))], []⟩ (by kernel_rfl) ?_
          refine fin3 _ _ _ _ [.bool true] [] (.inl rfl) (by kernel_rfl) (by kernel_rfl) ?_
          refine X.run 5 [4] [] (.ex .ret) [] ⟨18, [(4, .v (.bool true))], []⟩ (by kernel_rfl) ?_
          refine doneG (.inl rfl) [.bool true] [] (by kernel_rfl) rfl rfl (hG1) ?_
          -- end 9 (TFFT)
          exact ⟨congrArg Value.bool (by rw [had_find, show (findO xs k).2 = true by assumption, decide_eq_true (show 0 < szk k by rw [show k = 172 by assumption]; decide)]; rfl), rfl⟩
        · -- slot 10: k == 172 is False
          replace h7 : k ≠ 172 := by simpa using h7
          refine X.run 6 [2, 3, 4, 10] [] (.code (cA B108 [1, 0, 1, 0, 1, 1, 1, 1, 1])) [.blk 0, .seq (cA B108 [1, 1])] ⟨13, [(2, .v (.int .i64 0)), (3, .v (.int .i64 0)), (4, .v (.int .i64 0)), (10, .v (.bool (k == 174)))], []⟩ (by kernel_rfl) ?_
          refine X.split 10 rfl (fun h8 => ?_) (fun h8 => ?_)
          · -- slot 10: k == 174 is True
            replace h8 : k = 174 := by simpa using h8
            refine X.run 11 [2, 3, 4] [] (.ex .ret) [] ⟨13, [(2, .v (.int .i64 3)), (3, .v (.int .i64 0)), (4, .v (.int .i64 3))], []⟩ (by kernel_rfl) ?_
            refine fin4 _ _ _ _ [.int .i64 3, .int .i64 0, .int .i64 3] [] (.inl rfl) (by kernel_rfl) (by kernel_rfl) ?_
            refine X.run 17 [2] [] (.ex .ret) [] ⟨14, [(2, .v (.bool true))], []⟩ (by kernel_rfl) ?_
            refine fin3 _ _ _ _ [.bool true] [] (.inl rfl) (by kernel_rfl) (by kernel_rfl) ?_
            refine X.run 5 [4] [] (.ex .ret) [] ⟨18, [(4, .v (.bool true))], []⟩ (by kernel_rfl) ?_
            refine doneG (.inl rfl) [.bool true] [] (by kernel_rfl) rfl rfl (hG1) ?_
            -- end 12 (TFFFT)
            exact ⟨congrArg Value.bool (by rw [had_find, show (findO xs k).2 = true by assumption, decide_eq_true (show 0 < szk k by rw [show k = 174 by assumption]; decide)]; rfl), rfl⟩
          · -- slot 10: k == 174 is False
            replace h8 : k ≠ 174 := by simpa using h8
            refine X.run 12 [2, 3, 4] [] (.ex .ret) [] ⟨13, [(2, .v (.int .i64 0)), (3, .v (.int .i64 0)), (4, .v (.int .i64 0))], []⟩ (by kernel_rfl) ?_
            refine fin4 _ _ _ _ [.int .i64 0, .int .i64 0, .int .i64 0] [] (.inl rfl) (by kernel_rfl) (by kernel_rfl) ?_
            refine X.run 17 [2] [] (.ex .ret) [] ⟨14, [(2, .v (.bool false))], []⟩ (by kernel_rfl) ?_
            refine fin3 _ _ _ _ [.bool false] [] (.inl rfl) (by kernel_rfl) (by kernel_rfl) ?_
            refine X.run 5 [4] [] (.ex .ret) [] ⟨18, [(4, .v (.bool false))], []⟩ (by kernel_rfl) ?_
            refine doneG (.inl rfl) [.bool false] [] (by kernel_rfl) rfl rfl (hG1) ?_
            -- end 15 (TFFFF)
            exact ⟨congrArg Value.bool (had_off (by rw [show szk k = 0 by unfold szk; rw [if_neg (by omega), if_neg (by omega), if_neg (by omega)]]; decide)).symm, rfl⟩
  · -- slot 14: (findO xs k).2 is False
    refine X.run 7 [4] [] (.ex .ret) [] ⟨18, [(4, .v (.bool false))], []⟩ (by kernel_rfl) ?_
    refine doneG (.inl rfl) [.bool false] [] (by kernel_rfl) rfl rfl (hG1) ?_
    -- end 16 (F)
    exact ⟨congrArg Value.bool (by rw [had_find, show (findO xs k).2 = false by assumption]; rfl), rfl⟩
end Go.Proofs.YtjgpdbkkpomhjaaX
