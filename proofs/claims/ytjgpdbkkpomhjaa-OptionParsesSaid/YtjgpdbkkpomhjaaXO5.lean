/- leatref12.fine, Had, option.Find, had -/
import Derived.Test.YtjgpdbkkpomhjaaProg
import Derived.KernelRfl
import Derived.Test.YtjgpdbkkpomhjaaXO4
namespace Go.Proofs.YtjgpdbkkpomhjaaX
open Go.RowKit
set_option linter.unusedVariables false
set_option linter.unusedSimpArgs false
set_option maxRecDepth 100000
/-- leat/leatref12.Size -/
noncomputable def B112 : Code := bodyOf Try.f112

/-- leat/leatref12.May -/
noncomputable def B121 : Code := bodyOf Try.f121

/-- leat/leatref12.fine -/
noncomputable def B110 : Code := bodyOf Try.f110
set_option maxHeartbeats 4000000 in
theorem rfine_ok (k1 : Int) (A : Option Addr) (ca : Nat) (xs : List Int) (s1 : ByteArray) (G : Mem) (hx : rowAt (D.int .u32) G A xs) (hxc : xs.length ≤ ca) (hxm : ca ≤ maxLen) : CallsG Try.prog 110 [.agg #[.int .i64 k1, .slice A xs.length ca, .string s1]] G (fun _ v rows => v = .bool (fineB (k1, xs, s1)) ∧ rows = []) := by
  simp only [maxLen] at hxm
  refine CallsG.enter Try.func110 rfl rfl ?_
  intro w
  refine X.run 13 [1, 2, 10] [1] (.ops (aA B110 [1, 0, 0]) (oA B110 [1, 0, 0] 4 :: lA B110 [1, 0, 0] 5)) [.seq (cA B110 [1, 0, 1]), .seq (cA B110 [1, 1])] ⟨57, [(1, .own 1 0), (2, .v (.bool false)), (10, .v (.bool (decide (k1 < 2))))], [(1, ⟨65, [.v (.int .i64 k1), .v (.slice A xs.length ca), .v (.string s1)]⟩)]⟩ (by kernel_rfl) ?_
  refine X.split 10 rfl (fun h1 => ?_) (fun h1 => ?_)
  · -- slot 10: decide (k1 < 2) is True
    replace h1 : k1 < 2 := of_decide_eq_true h1
    refine X.run 14 [2] [] (.ex .ret) [] ⟨57, [(2, .v (.bool false))], []⟩ (by kernel_rfl) ?_
    refine doneG (.inl rfl) [.bool false] [] (by kernel_rfl) rfl rfl (Ge.refl _ _) ?_
    -- end 1 (T)
    exact ⟨congrArg Value.bool (fine_out (by omega)).symm, rfl⟩
  · -- slot 10: decide (k1 < 2) is False
    replace h1 : ¬ (k1 < 2) := of_decide_eq_false h1
    refine X.run 6 [1, 2, 14] [1] (.code (cA B110 [1, 0, 1])) [.seq (cA B110 [1, 1])] ⟨57, [(1, .own 1 0), (2, .v (.bool false)), (14, .v (.bool (decide (k1 > 255))))], [(1, ⟨65, [.v (.int .i64 k1), .v (.slice A xs.length ca), .v (.string s1)]⟩)]⟩ (by kernel_rfl) ?_
    refine X.split 14 rfl (fun h2 => ?_) (fun h2 => ?_)
    · -- slot 14: decide (k1 > 255) is True
      replace h2 : k1 > 255 := of_decide_eq_true h2
      refine X.run 8 [2] [] (.ex .ret) [] ⟨57, [(2, .v (.bool false))], []⟩ (by kernel_rfl) ?_
      refine doneG (.inl rfl) [.bool false] [] (by kernel_rfl) rfl rfl (Ge.refl _ _) ?_
      -- end 2 (FT)
      exact ⟨congrArg Value.bool (fine_out (by omega)).symm, rfl⟩
    · -- slot 14: decide (k1 > 255) is False
      replace h2 : ¬ (k1 > 255) := of_decide_eq_false h2
      refine X.run 7 [1, 2, 16] [1] (.ops (aA B110 [1, 1, 0]) (oA B110 [1, 1, 0] 2 :: lA B110 [1, 1, 0] 3)) [.seq (cA B110 [1, 1, 1])] ⟨57, [(1, .own 1 0), (2, .v (.bool false)), (16, .v (.int .i64 k1))], [(1, ⟨65, [.v (.int .i64 k1), .v (.slice A xs.length ca), .v (.string s1)]⟩)]⟩ (by kernel_rfl) ?_
      refine X.inline (f := 112) (l := [.v (.int .i64 k1)]) (fn := Try.f112) (c := B112) (by kernel_rfl) (by kernel_rfl) Try.func112 (by kernel_rfl) ?_
      intro Q3 M3 hM3 hQ3 fin3
      refine X.run 12 [0, 2, 4] [1001] (.code (cA B112 [1, 0, 1])) [.seq (cA B112 [1, 1])] ⟨13, [(0, .v (.int .i64 k1)), (2, .v (.int .i64 0)), (4, .v (.bool (k1 == 2)))], [(1001, ⟨65, [.v (.int .i64 k1), .v (.slice A xs.length ca), .v (.string s1)]⟩)]⟩ (by kernel_rfl) ?_
      refine X.split 4 rfl (fun h4 => ?_) (fun h4 => ?_)
      · -- slot 4: k1 == 2 is True
        replace h4 : k1 = 2 := by simpa using h4
        refine X.run 8 [2] [1001] (.ex .ret) [] ⟨13, [(2, .v (.int .i64 2))], [(1001, ⟨65, [.v (.int .i64 k1), .v (.slice A xs.length ca), .v (.string s1)]⟩)]⟩ (by kernel_rfl) ?_
        refine fin3 _ _ _ _ [.int .i64 2] [(1, ⟨65, [.v (.int .i64 k1), .v (.slice A xs.length ca), .v (.string s1)]⟩)] (.inl rfl) (by kernel_rfl) (by kernel_rfl) ?_
        refine X.run 25 [1, 2, 3, 4, 5] [1] (.code (cA B110 [1, 1, 1, 1, 1, 0, 1, 0])) [.blk 0, .seq (cA B110 [1, 1, 1, 1, 1, 1])] ⟨57, [(1, .own 1 0), (2, .v (.bool false)), (3, .v (.int .i64 2)), (4, .v (.int .u64 1)), (5, .v (.int .i64 0))], [(1, ⟨65, [.v (.int .i64 k1), .v (.slice A xs.length ca), .v (.string s1)]⟩)]⟩ (by kernel_rfl) ?_
        refine X.rounds 6 ?_
        refine RX.succ fun J5 hJ5 => ?_
        refine X.run 25 [1, 2, 3, 4, 5, 24, 25, 26, 27, 28, 29, 30] [1] (.ex .normal) [.loop J5, .blk 0, .seq (cA B110 [1, 1, 1, 1, 1, 1])] ⟨57, [(1, .own 1 0), (2, .v (.bool false)), (3, .v (.int .i64 2)), (4, .v (.int .u64 256)), (5, .v (.int .i64 1)), (24, .v (.int .i64 0)), (25, .v (.int .i64 2)), (26, .v (.bool true)), (27, .v (.int .i64 0)), (28, .v (.int .i64 1)), (29, .v (.int .u64 1)), (30, .v (.int .u64 256))], [(1, ⟨65, [.v (.int .i64 k1), .v (.slice A xs.length ca), .v (.string s1)]⟩)]⟩ (by kernel_rfl) ?_
        refine X.again (hJ5 _ _ _ ?_)
        refine RX.succ fun J6 hJ6 => ?_
        refine X.run 25 [1, 2, 3, 4, 5, 24, 25, 26, 27, 28, 29, 30] [1] (.ex .normal) [.loop J6, .blk 0, .seq (cA B110 [1, 1, 1, 1, 1, 1])] ⟨57, [(1, .own 1 0), (2, .v (.bool false)), (3, .v (.int .i64 2)), (4, .v (.int .u64 65536)), (5, .v (.int .i64 2)), (24, .v (.int .i64 1)), (25, .v (.int .i64 2)), (26, .v (.bool true)), (27, .v (.int .i64 1)), (28, .v (.int .i64 2)), (29, .v (.int .u64 256)), (30, .v (.int .u64 65536))], [(1, ⟨65, [.v (.int .i64 k1), .v (.slice A xs.length ca), .v (.string s1)]⟩)]⟩ (by kernel_rfl) ?_
        refine X.again (hJ6 _ _ _ ?_)
        refine RX.succ fun J7 hJ7 => ?_
        refine X.run 21 [1, 2, 4, 6] [1] (.code (cA B110 [1, 1, 1, 1, 1, 1, 0, 1, 0])) [.blk 2, .seq (cA B110 [1, 1, 1, 1, 1, 1, 1])] ⟨57, [(1, .own 1 0), (2, .v (.bool false)), (4, .v (.int .u64 65536)), (6, .v (.int .i64 0))], [(1, ⟨65, [.v (.int .i64 k1), .v (.slice A xs.length ca), .v (.string s1)]⟩)]⟩ (by kernel_rfl) ?_
        refine X.run 0 [1, 4, 6] [1] (.code (cA B110 [1, 1, 1, 1, 1, 1, 0, 1, 0])) [.blk 2, .seq (cA B110 [1, 1, 1, 1, 1, 1, 1])] ⟨57, [(1, .own 1 0), (4, .v (.int .u64 65536)), (6, .v (.int .i64 0))], [(1, ⟨65, [.v (.int .i64 k1), .v (.slice A xs.length ca), .v (.string s1)]⟩)]⟩ (by kernel_rfl) ?_
        refine X.loopJ (fun m s R' G' => ∃ (i : Int), s = ⟨57, [(1, .own 1 0), (4, .v (.int .u64 65536)), (6, .v (.int .i64 i))], [(1, ⟨65, [.v (.int .i64 k1), .v (.slice A xs.length ca), .v (.string s1)]⟩)]⟩ ∧ R' = [] ∧ G = G' ∧ (0 ≤ i ∧ i ≤ (xs.length : Int) ∧ ∀ n ∈ xs.take i.toNat, n < 65536) ∧ m = ((xs.length : Int) - i).toNat) _ ⟨0, rfl, rfl, rfl, ⟨by omega, by omega, by simp⟩, rfl⟩ ?_
        rintro m8 s8 R8 G8 ⟨i, rfl, rfl, rfl, hF8, rfl⟩ J8 hJ8
        obtain ⟨hi0, hi1, hi2⟩ := hF8
        refine X.run 10 [1, 4, 6, 35] [1] (.code (cA B110 [1, 1, 1, 1, 1, 1, 0, 1, 0, 0, 0, 1])) [.seq (cA B110 [1, 1, 1, 1, 1, 1, 0, 1, 0, 0, 1]), .loop J8, .blk 2, .seq (cA B110 [1, 1, 1, 1, 1, 1, 1])] ⟨57, [(1, .own 1 0), (4, .v (.int .u64 65536)), (6, .v (.int .i64 i)), (35, .v (.bool (decide (i < ((xs.length : Nat) : Int)))))], [(1, ⟨65, [.v (.int .i64 k1), .v (.slice A xs.length ca), .v (.string s1)]⟩)]⟩ (by kernel_rfl) ?_
        refine X.split 35 rfl (fun h9 => ?_) (fun h9 => ?_)
        · -- slot 35: decide (i < ((xs.length : Nat) : Int)) is True
          replace h9 : i < ((xs.length : Nat) : Int) := of_decide_eq_true h9
          refine X.run 10 [1, 4, 6, 39, 40] [1] (.ops (aA B110 [1, 1, 1, 1, 1, 1, 0, 1, 0, 0, 1, 0, 0, 0]) (oA B110 [1, 1, 1, 1, 1, 1, 0, 1, 0, 0, 1, 0, 0, 0] 3 :: lA B110 [1, 1, 1, 1, 1, 1, 0, 1, 0, 0, 1, 0, 0, 0] 4)) [.seq (cA B110 [1, 1, 1, 1, 1, 1, 0, 1, 0, 0, 1, 0, 0, 1]), .blk 3, .seq (cA B110 [1, 1, 1, 1, 1, 1, 0, 1, 0, 0, 1, 1]), .loop J8, .blk 2, .seq (cA B110 [1, 1, 1, 1, 1, 1, 1])] ⟨57, [(1, .own 1 0), (4, .v (.int .u64 65536)), (6, .v (.int .i64 i)), (39, .v (.slice A xs.length ca)), (40, .v (.int .i64 i))], [(1, ⟨65, [.v (.int .i64 k1), .v (.slice A xs.length ca), .v (.string s1)]⟩)]⟩ (by kernel_rfl) ?_
          have b10 : (0 : Int) ≤ i := by omega
          have b11 : i < ((xs.length : Nat) : Int) := by omega
          refine X.index (t := 63) (e := 29) (sz := 1) (A := A) (n := xs.length) (c := ca) (ki := .i64) (i := i) (x := .tmp 39) (ix := .tmp 40) (by kernel_rfl) (by kernel_rfl) (by kernel_rfl) (by kernel_rfl) (by kernel_rfl) (by kernel_rfl) b10 b11 (fun _ _ => rowAt.so hx (by omega)) ?_
          obtain ⟨at12, lo12, hi12⟩ := At.int [] hx ((i).toNat) (by omega)
          simp only [IntKind.lo, IntKind.hi] at lo12 hi12
          refine X.run 0 [1, 4, 6, 41] [1] (.ops (aA B110 [1, 1, 1, 1, 1, 1, 0, 1, 0, 0, 1, 0, 0, 0]) (oA B110 [1, 1, 1, 1, 1, 1, 0, 1, 0, 0, 1, 0, 0, 0] 4 :: lA B110 [1, 1, 1, 1, 1, 1, 0, 1, 0, 0, 1, 0, 0, 0] 5)) [.seq (cA B110 [1, 1, 1, 1, 1, 1, 0, 1, 0, 0, 1, 0, 0, 1]), .blk 3, .seq (cA B110 [1, 1, 1, 1, 1, 1, 0, 1, 0, 0, 1, 1]), .loop J8, .blk 2, .seq (cA B110 [1, 1, 1, 1, 1, 1, 1])] ⟨57, [(1, .own 1 0), (4, .v (.int .u64 65536)), (6, .v (.int .i64 i)), (41, .v (elt A ((i).toNat * 1)))], [(1, ⟨65, [.v (.int .i64 k1), .v (.slice A xs.length ca), .v (.string s1)]⟩)]⟩ (by kernel_rfl) ?_
          refine X.load (t := 29) (A := A) (j := (i).toNat * 1) (x := .tmp 41) (z := .int .u32 (xs.getD ((i).toNat) 0)) [.int .u32 (xs.getD ((i).toNat) 0)] (by kernel_rfl) (by kernel_rfl) at12 (by kernel_rfl) (by kernel_rfl) ?_
          refine X.run 1 [1, 4, 6, 43] [1] (.ops (aA B110 [1, 1, 1, 1, 1, 1, 0, 1, 0, 0, 1, 0, 0, 0]) (oA B110 [1, 1, 1, 1, 1, 1, 0, 1, 0, 0, 1, 0, 0, 0] 6 :: lA B110 [1, 1, 1, 1, 1, 1, 0, 1, 0, 0, 1, 0, 0, 0] 7)) [.seq (cA B110 [1, 1, 1, 1, 1, 1, 0, 1, 0, 0, 1, 0, 0, 1]), .blk 3, .seq (cA B110 [1, 1, 1, 1, 1, 1, 0, 1, 0, 0, 1, 1]), .loop J8, .blk 2, .seq (cA B110 [1, 1, 1, 1, 1, 1, 1])] ⟨57, [(1, .own 1 0), (4, .v (.int .u64 65536)), (6, .v (.int .i64 i)), (43, .v (.int .u64 (IntKind.u64.wrap (xs.getD ((i).toNat) 0))))], [(1, ⟨65, [.v (.int .i64 k1), .v (.slice A xs.length ca), .v (.string s1)]⟩)]⟩ (by kernel_rfl) ?_
          refine X.known 43 (y := .v (.int .u64 (xs.getD ((i).toNat) 0))) rfl (congrArg (fun z_ => AV.v (.int .u64 z_)) (wu64 (by omega) (by omega))) ?_
          refine X.run 4 [1, 4, 6, 45] [1] (.code (cA B110 [1, 1, 1, 1, 1, 1, 0, 1, 0, 0, 1, 0, 0, 1])) [.blk 3, .seq (cA B110 [1, 1, 1, 1, 1, 1, 0, 1, 0, 0, 1, 1]), .loop J8, .blk 2, .seq (cA B110 [1, 1, 1, 1, 1, 1, 1])] ⟨57, [(1, .own 1 0), (4, .v (.int .u64 65536)), (6, .v (.int .i64 i)), (45, .v (.bool (decide (xs.getD ((i).toNat) 0 ≥ 65536))))], [(1, ⟨65, [.v (.int .i64 k1), .v (.slice A xs.length ca), .v (.string s1)]⟩)]⟩ (by kernel_rfl) ?_
          refine X.split 45 rfl (fun h13 => ?_) (fun h13 => ?_)
          · -- slot 45: decide (xs.getD ((i).toNat) 0 ≥ 65536) is True
            replace h13 : xs.getD ((i).toNat) 0 ≥ 65536 := of_decide_eq_true h13
            refine X.run 12 [2] [] (.ex .ret) [] ⟨57, [(2, .v (.bool false))], []⟩ (by kernel_rfl) ?_
            refine doneG (.inl rfl) [.bool false] [] (by kernel_rfl) rfl rfl (Ge.refl _ _) ?_
            -- end 4 (FFTTT)
            refine ⟨congrArg Value.bool ?_, rfl⟩
            first | exact (fine_raw (show 2 ≤ k1 ∧ k1 ≤ 255 from ⟨by omega, by omega⟩) (show szk k1 ≠ 0 by rw [show k1 = 2 by assumption]; decide) (by assumption)).symm | exact (fine_big (show 2 ≤ k1 ∧ k1 ≤ 255 from ⟨by omega, by omega⟩) (show szk k1 ≠ 0 by rw [show k1 = 2 by assumption]; decide) (show (256 : Int) ^ (szk k1).toNat = 65536 by rw [show k1 = 2 by assumption]; rfl) (getD_mem (i := i.toNat) (d := 0) (by omega)) (by omega)).symm
          · -- slot 45: decide (xs.getD ((i).toNat) 0 ≥ 65536) is False
            replace h13 : ¬ (xs.getD ((i).toNat) 0 ≥ 65536) := of_decide_eq_false h13
            refine X.run 9 [1, 4, 6] [1] (.ex .normal) [.loop J8, .blk 2, .seq (cA B110 [1, 1, 1, 1, 1, 1, 1])] ⟨57, [(1, .own 1 0), (4, .v (.int .u64 65536)), (6, .v (.int .i64 (IntKind.i64.wrap (i + 1))))], [(1, ⟨65, [.v (.int .i64 k1), .v (.slice A xs.length ca), .v (.string s1)]⟩)]⟩ (by kernel_rfl) ?_
            -- again (FFTTF)
            have e1 : IntKind.i64.wrap (i + 1) = i + 1 := wi64 (by omega) (by omega)
            have e0 : (i + 1).toNat = i.toNat + 1 := by omega
            exact X.again (hJ8 _ _ _ _ ⟨IntKind.i64.wrap (i + 1), rfl, rfl, rfl, ⟨by omega, by omega, by rw [e1, e0]; exact take_all (d := 0) hi2 (by omega) (by omega)⟩, rfl⟩ (by rw [e1]; omega))
        · -- slot 35: decide (i < ((xs.length : Nat) : Int)) is False
          replace h9 : ¬ (i < ((xs.length : Nat) : Int)) := of_decide_eq_false h9
          refine X.run 12 [1, 49] [1] (.ops (aA B110 [1, 1, 1, 1, 1, 1, 1, 0]) (oA B110 [1, 1, 1, 1, 1, 1, 1, 0] 4 :: lA B110 [1, 1, 1, 1, 1, 1, 1, 0] 5)) [.seq (cA B110 [1, 1, 1, 1, 1, 1, 1, 1])] ⟨57, [(1, .own 1 0), (49, .v (.bool (s1.toList == (⟨#[]⟩ : ByteArray).toList)))], [(1, ⟨65, [.v (.int .i64 k1), .v (.slice A xs.length ca), .v (.string s1)]⟩)]⟩ (by kernel_rfl) ?_
          refine X.split 49 rfl (fun h14 => ?_) (fun h14 => ?_)
          · -- slot 49: (s1.toList == (⟨#[]⟩ : ByteArray).toList) is True
            replace h14 : s1 = (⟨#[]⟩ : ByteArray) := strT h14
            refine X.run 5 [49, 51, 54] [] (.ops (aA B110 [1, 1, 1, 1, 1, 1, 1, 0]) (oA B110 [1, 1, 1, 1, 1, 1, 1, 0] 9 :: lA B110 [1, 1, 1, 1, 1, 1, 1, 0] 10)) [.seq (cA B110 [1, 1, 1, 1, 1, 1, 1, 1])] ⟨57, [(49, .v (.bool true)), (51, .v (.int .i64 k1)), (54, .v (.int .i64 ((xs.length : Nat) : Int)))], []⟩ (by kernel_rfl) ?_
            refine X.inline (f := 121) (l := [.v (.int .i64 k1), .v (.int .i64 ((xs.length : Nat) : Int))]) (fn := Try.f121) (c := B121) (by kernel_rfl) (by kernel_rfl) Try.func121 (by kernel_rfl) ?_
            intro Q15 M15 hM15 hQ15 fin15
            refine X.run 12 [0, 1, 4, 6] [] (.code (cA B121 [1, 0, 1])) [.seq (cA B121 [1, 1])] ⟨15, [(0, .v (.int .i64 k1)), (1, .v (.int .i64 ((xs.length : Nat) : Int))), (4, .v (.bool false)), (6, .v (.bool (k1 == 2)))], []⟩ (by kernel_rfl) ?_
            refine X.split 6 rfl (fun h16 => ?_) (fun h16 => ?_)
            · -- slot 6: k1 == 2 is True
              replace h16 : k1 = 2 := by simpa using h16
              refine X.run 10 [4] [] (.ex .ret) [] ⟨15, [(4, .v (.bool (((xs.length : Nat) : Int) == 1)))], []⟩ (by kernel_rfl) ?_
              refine fin15 _ _ _ _ [.bool (((xs.length : Nat) : Int) == 1)] [] (.inl rfl) (by kernel_rfl) (by kernel_rfl) ?_
              refine X.run 5 [2] [] (.ex .ret) [] ⟨57, [(2, .v (.bool (((xs.length : Nat) : Int) == 1)))], []⟩ (by kernel_rfl) ?_
              refine doneG (.inl rfl) [.bool (((xs.length : Nat) : Int) == 1)] [] (by kernel_rfl) rfl rfl (Ge.refl _ _) ?_
              -- end 6 (FFTFTT)
              refine ⟨congrArg Value.bool ?_, rfl⟩
              rw [List.take_of_length_le (by omega)] at hi2
              rw [fine_eq (show 2 ≤ k1 ∧ k1 ≤ 255 from ⟨by omega, by omega⟩) (show szk k1 ≠ 0 by rw [show k1 = 2 by assumption]; decide), (show (256 : Int) ^ (szk k1).toNat = 65536 by rw [show k1 = 2 by assumption]; rfl), decide_eq_true (show s1 = ⟨#[]⟩ by assumption), decide_eq_true hi2, show k1 = 2 by assumption, show lk2 2 = 1 from rfl, show mk2 2 = 1 from rfl, Bool.eq_iff_iff]
              simp <;> omega
            · -- slot 6: k1 == 2 is False
              replace h16 : k1 ≠ 2 := by simpa using h16
              refine X.run 10 [1, 4, 10] [] (.code (cA B121 [1, 1, 0, 1])) [.seq (cA B121 [1, 1, 1])] ⟨15, [(1, .v (.int .i64 ((xs.length : Nat) : Int))), (4, .v (.bool false)), (10, .v (.bool (k1 == 8)))], []⟩ (by kernel_rfl) ?_
              refine X.split 10 rfl (fun h17 => ?_) (fun h17 => ?_)
              · -- slot 10: k1 == 8 is True
                replace h17 : k1 = 8 := by simpa using h17
                refine X.run 10 [4] [] (.ex .ret) [] ⟨15, [(4, .v (.bool (((xs.length : Nat) : Int) == 2)))], []⟩ (by kernel_rfl) ?_
                refine fin15 _ _ _ _ [.bool (((xs.length : Nat) : Int) == 2)] [] (.inl rfl) (by kernel_rfl) (by kernel_rfl) ?_
                refine X.run 5 [2] [] (.ex .ret) [] ⟨57, [(2, .v (.bool (((xs.length : Nat) : Int) == 2)))], []⟩ (by kernel_rfl) ?_
                refine doneG (.inl rfl) [.bool (((xs.length : Nat) : Int) == 2)] [] (by kernel_rfl) rfl rfl (Ge.refl _ _) ?_
                -- end 8 (FFTFTFT)
                refine ⟨congrArg Value.bool ?_, rfl⟩
                rw [List.take_of_length_le (by omega)] at hi2
                rw [fine_eq (show 2 ≤ k1 ∧ k1 ≤ 255 from ⟨by omega, by omega⟩) (show szk k1 ≠ 0 by rw [show k1 = 2 by assumption]; decide), (show (256 : Int) ^ (szk k1).toNat = 65536 by rw [show k1 = 2 by assumption]; rfl), decide_eq_true (show s1 = ⟨#[]⟩ by assumption), decide_eq_true hi2, show k1 = 2 by assumption, show lk2 2 = 1 from rfl, show mk2 2 = 1 from rfl, Bool.eq_iff_iff]
                simp <;> omega
              · -- slot 10: k1 == 8 is False
                replace h17 : k1 ≠ 8 := by simpa using h17
                refine X.run 11 [4] [] (.ex .ret) [] ⟨15, [(4, .v (.bool (decide (((xs.length : Nat) : Int) ≤ 3))))], []⟩ (by kernel_rfl) ?_
                refine fin15 _ _ _ _ [.bool (decide (((xs.length : Nat) : Int) ≤ 3))] [] (.inl rfl) (by kernel_rfl) (by kernel_rfl) ?_
                refine X.run 5 [2] [] (.ex .ret) [] ⟨57, [(2, .v (.bool (decide (((xs.length : Nat) : Int) ≤ 3))))], []⟩ (by kernel_rfl) ?_
                refine doneG (.inl rfl) [.bool (decide (((xs.length : Nat) : Int) ≤ 3))] [] (by kernel_rfl) rfl rfl (Ge.refl _ _) ?_
                -- end 10 (FFTFTFF)
                refine ⟨congrArg Value.bool ?_, rfl⟩
                rw [List.take_of_length_le (by omega)] at hi2
                rw [fine_eq (show 2 ≤ k1 ∧ k1 ≤ 255 from ⟨by omega, by omega⟩) (show szk k1 ≠ 0 by rw [show k1 = 2 by assumption]; decide), (show (256 : Int) ^ (szk k1).toNat = 65536 by rw [show k1 = 2 by assumption]; rfl), decide_eq_true (show s1 = ⟨#[]⟩ by assumption), decide_eq_true hi2, show k1 = 2 by assumption, show lk2 2 = 1 from rfl, show mk2 2 = 1 from rfl, Bool.eq_iff_iff]
                simp <;> omega
          · -- slot 49: (s1.toList == (⟨#[]⟩ : ByteArray).toList) is False
            replace h14 : s1 ≠ (⟨#[]⟩ : ByteArray) := strF h14
            refine X.run 11 [2] [] (.ex .ret) [] ⟨57, [(2, .v (.bool false))], []⟩ (by kernel_rfl) ?_
            refine doneG (.inl rfl) [.bool false] [] (by kernel_rfl) rfl rfl (Ge.refl _ _) ?_
            -- end 11 (FFTFF)
            refine ⟨congrArg Value.bool ?_, rfl⟩
            first | exact (fine_raw (show 2 ≤ k1 ∧ k1 ≤ 255 from ⟨by omega, by omega⟩) (show szk k1 ≠ 0 by rw [show k1 = 2 by assumption]; decide) (by assumption)).symm | exact (fine_big (show 2 ≤ k1 ∧ k1 ≤ 255 from ⟨by omega, by omega⟩) (show szk k1 ≠ 0 by rw [show k1 = 2 by assumption]; decide) (show (256 : Int) ^ (szk k1).toNat = 65536 by rw [show k1 = 2 by assumption]; rfl) (getD_mem (i := i.toNat) (d := 0) (by omega)) (by omega)).symm
      · -- slot 4: k1 == 2 is False
        replace h4 : k1 ≠ 2 := by simpa using h4
        refine X.run 10 [0, 2, 6] [1001] (.code (cA B112 [1, 1, 0, 1])) [.seq (cA B112 [1, 1, 1])] ⟨13, [(0, .v (.int .i64 k1)), (2, .v (.int .i64 0)), (6, .v (.bool (k1 == 8)))], [(1001, ⟨65, [.v (.int .i64 k1), .v (.slice A xs.length ca), .v (.string s1)]⟩)]⟩ (by kernel_rfl) ?_
        refine X.split 6 rfl (fun h18 => ?_) (fun h18 => ?_)
        · -- slot 6: k1 == 8 is True
          replace h18 : k1 = 8 := by simpa using h18
          refine X.run 8 [2] [1001] (.ex .ret) [] ⟨13, [(2, .v (.int .i64 4))], [(1001, ⟨65, [.v (.int .i64 k1), .v (.slice A xs.length ca), .v (.string s1)]⟩)]⟩ (by kernel_rfl) ?_
          refine fin3 _ _ _ _ [.int .i64 4] [(1, ⟨65, [.v (.int .i64 k1), .v (.slice A xs.length ca), .v (.string s1)]⟩)] (.inl rfl) (by kernel_rfl) (by kernel_rfl) ?_
          refine X.run 25 [1, 2, 3, 4, 5] [1] (.code (cA B110 [1, 1, 1, 1, 1, 0, 1, 0])) [.blk 0, .seq (cA B110 [1, 1, 1, 1, 1, 1])] ⟨57, [(1, .own 1 0), (2, .v (.bool false)), (3, .v (.int .i64 4)), (4, .v (.int .u64 1)), (5, .v (.int .i64 0))], [(1, ⟨65, [.v (.int .i64 k1), .v (.slice A xs.length ca), .v (.string s1)]⟩)]⟩ (by kernel_rfl) ?_
          refine X.rounds 6 ?_
          refine RX.succ fun J19 hJ19 => ?_
          refine X.run 25 [1, 2, 3, 4, 5, 24, 25, 26, 27, 28, 29, 30] [1] (.ex .normal) [.loop J19, .blk 0, .seq (cA B110 [1, 1, 1, 1, 1, 1])] ⟨57, [(1, .own 1 0), (2, .v (.bool false)), (3, .v (.int .i64 4)), (4, .v (.int .u64 256)), (5, .v (.int .i64 1)), (24, .v (.int .i64 0)), (25, .v (.int .i64 4)), (26, .v (.bool true)), (27, .v (.int .i64 0)), (28, .v (.int .i64 1)), (29, .v (.int .u64 1)), (30, .v (.int .u64 256))], [(1, ⟨65, [.v (.int .i64 k1), .v (.slice A xs.length ca), .v (.string s1)]⟩)]⟩ (by kernel_rfl) ?_
          refine X.again (hJ19 _ _ _ ?_)
          refine RX.succ fun J20 hJ20 => ?_
          refine X.run 25 [1, 2, 3, 4, 5, 24, 25, 26, 27, 28, 29, 30] [1] (.ex .normal) [.loop J20, .blk 0, .seq (cA B110 [1, 1, 1, 1, 1, 1])] ⟨57, [(1, .own 1 0), (2, .v (.bool false)), (3, .v (.int .i64 4)), (4, .v (.int .u64 65536)), (5, .v (.int .i64 2)), (24, .v (.int .i64 1)), (25, .v (.int .i64 4)), (26, .v (.bool true)), (27, .v (.int .i64 1)), (28, .v (.int .i64 2)), (29, .v (.int .u64 256)), (30, .v (.int .u64 65536))], [(1, ⟨65, [.v (.int .i64 k1), .v (.slice A xs.length ca), .v (.string s1)]⟩)]⟩ (by kernel_rfl) ?_
          refine X.again (hJ20 _ _ _ ?_)
          refine RX.succ fun J21 hJ21 => ?_
          refine X.run 25 [1, 2, 3, 4, 5, 24, 25, 26, 27, 28, 29, 30] [1] (.ex .normal) [.loop J21, .blk 0, .seq (cA B110 [1, 1, 1, 1, 1, 1])] ⟨57, [(1, .own 1 0), (2, .v (.bool false)), (3, .v (.int .i64 4)), (4, .v (.int .u64 16777216)), (5, .v (.int .i64 3)), (24, .v (.int .i64 2)), (25, .v (.int .i64 4)), (26, .v (.bool true)), (27, .v (.int .i64 2)), (28, .v (.int .i64 3)), (29, .v (.int .u64 65536)), (30, .v (.int .u64 16777216))], [(1, ⟨65, [.v (.int .i64 k1), .v (.slice A xs.length ca), .v (.string s1)]⟩)]⟩ (by kernel_rfl) ?_
          refine X.again (hJ21 _ _ _ ?_)
          refine RX.succ fun J22 hJ22 => ?_
          refine X.run 25 [1, 2, 3, 4, 5, 24, 25, 26, 27, 28, 29, 30] [1] (.ex .normal) [.loop J22, .blk 0, .seq (cA B110 [1, 1, 1, 1, 1, 1])] ⟨57, [(1, .own 1 0), (2, .v (.bool false)), (3, .v (.int .i64 4)), (4, .v (.int .u64 4294967296)), (5, .v (.int .i64 4)), (24, .v (.int .i64 3)), (25, .v (.int .i64 4)), (26, .v (.bool true)), (27, .v (.int .i64 3)), (28, .v (.int .i64 4)), (29, .v (.int .u64 16777216)), (30, .v (.int .u64 4294967296))], [(1, ⟨65, [.v (.int .i64 k1), .v (.slice A xs.length ca), .v (.string s1)]⟩)]⟩ (by kernel_rfl) ?_
          refine X.again (hJ22 _ _ _ ?_)
          refine RX.succ fun J23 hJ23 => ?_
          refine X.run 21 [1, 2, 4, 6] [1] (.code (cA B110 [1, 1, 1, 1, 1, 1, 0, 1, 0])) [.blk 2, .seq (cA B110 [1, 1, 1, 1, 1, 1, 1])] ⟨57, [(1, .own 1 0), (2, .v (.bool false)), (4, .v (.int .u64 4294967296)), (6, .v (.int .i64 0))], [(1, ⟨65, [.v (.int .i64 k1), .v (.slice A xs.length ca), .v (.string s1)]⟩)]⟩ (by kernel_rfl) ?_
          refine X.run 0 [1, 4, 6] [1] (.code (cA B110 [1, 1, 1, 1, 1, 1, 0, 1, 0])) [.blk 2, .seq (cA B110 [1, 1, 1, 1, 1, 1, 1])] ⟨57, [(1, .own 1 0), (4, .v (.int .u64 4294967296)), (6, .v (.int .i64 0))], [(1, ⟨65, [.v (.int .i64 k1), .v (.slice A xs.length ca), .v (.string s1)]⟩)]⟩ (by kernel_rfl) ?_
          refine X.loopJ (fun m s R' G' => ∃ (i : Int), s = ⟨57, [(1, .own 1 0), (4, .v (.int .u64 4294967296)), (6, .v (.int .i64 i))], [(1, ⟨65, [.v (.int .i64 k1), .v (.slice A xs.length ca), .v (.string s1)]⟩)]⟩ ∧ R' = [] ∧ G = G' ∧ (0 ≤ i ∧ i ≤ (xs.length : Int) ∧ ∀ n ∈ xs.take i.toNat, n < 4294967296) ∧ m = ((xs.length : Int) - i).toNat) _ ⟨0, rfl, rfl, rfl, ⟨by omega, by omega, by simp⟩, rfl⟩ ?_
          rintro m24 s24 R24 G24 ⟨i, rfl, rfl, rfl, hF24, rfl⟩ J24 hJ24
          obtain ⟨hi0, hi1, hi2⟩ := hF24
          refine X.run 10 [1, 4, 6, 35] [1] (.code (cA B110 [1, 1, 1, 1, 1, 1, 0, 1, 0, 0, 0, 1])) [.seq (cA B110 [1, 1, 1, 1, 1, 1, 0, 1, 0, 0, 1]), .loop J24, .blk 2, .seq (cA B110 [1, 1, 1, 1, 1, 1, 1])] ⟨57, [(1, .own 1 0), (4, .v (.int .u64 4294967296)), (6, .v (.int .i64 i)), (35, .v (.bool (decide (i < ((xs.length : Nat) : Int)))))], [(1, ⟨65, [.v (.int .i64 k1), .v (.slice A xs.length ca), .v (.string s1)]⟩)]⟩ (by kernel_rfl) ?_
          refine X.split 35 rfl (fun h25 => ?_) (fun h25 => ?_)
          · -- slot 35: decide (i < ((xs.length : Nat) : Int)) is True
            replace h25 : i < ((xs.length : Nat) : Int) := of_decide_eq_true h25
            refine X.run 10 [1, 4, 6, 39, 40] [1] (.ops (aA B110 [1, 1, 1, 1, 1, 1, 0, 1, 0, 0, 1, 0, 0, 0]) (oA B110 [1, 1, 1, 1, 1, 1, 0, 1, 0, 0, 1, 0, 0, 0] 3 :: lA B110 [1, 1, 1, 1, 1, 1, 0, 1, 0, 0, 1, 0, 0, 0] 4)) [.seq (cA B110 [1, 1, 1, 1, 1, 1, 0, 1, 0, 0, 1, 0, 0, 1]), .blk 3, .seq (cA B110 [1, 1, 1, 1, 1, 1, 0, 1, 0, 0, 1, 1]), .loop J24, .blk 2, .seq (cA B110 [1, 1, 1, 1, 1, 1, 1])] ⟨57, [(1, .own 1 0), (4, .v (.int .u64 4294967296)), (6, .v (.int .i64 i)), (39, .v (.slice A xs.length ca)), (40, .v (.int .i64 i))], [(1, ⟨65, [.v (.int .i64 k1), .v (.slice A xs.length ca), .v (.string s1)]⟩)]⟩ (by kernel_rfl) ?_
            have b26 : (0 : Int) ≤ i := by omega
            have b27 : i < ((xs.length : Nat) : Int) := by omega
            refine X.index (t := 63) (e := 29) (sz := 1) (A := A) (n := xs.length) (c := ca) (ki := .i64) (i := i) (x := .tmp 39) (ix := .tmp 40) (by kernel_rfl) (by kernel_rfl) (by kernel_rfl) (by kernel_rfl) (by kernel_rfl) (by kernel_rfl) b26 b27 (fun _ _ => rowAt.so hx (by omega)) ?_
            obtain ⟨at28, lo28, hi28⟩ := At.int [] hx ((i).toNat) (by omega)
            simp only [IntKind.lo, IntKind.hi] at lo28 hi28
            refine X.run 0 [1, 4, 6, 41] [1] (.ops (aA B110 [1, 1, 1, 1, 1, 1, 0, 1, 0, 0, 1, 0, 0, 0]) (oA B110 [1, 1, 1, 1, 1, 1, 0, 1, 0, 0, 1, 0, 0, 0] 4 :: lA B110 [1, 1, 1, 1, 1, 1, 0, 1, 0, 0, 1, 0, 0, 0] 5)) [.seq (cA B110 [1, 1, 1, 1, 1, 1, 0, 1, 0, 0, 1, 0, 0, 1]), .blk 3, .seq (cA B110 [1, 1, 1, 1, 1, 1, 0, 1, 0, 0, 1, 1]), .loop J24, .blk 2, .seq (cA B110 [1, 1, 1, 1, 1, 1, 1])] ⟨57, [(1, .own 1 0), (4, .v (.int .u64 4294967296)), (6, .v (.int .i64 i)), (41, .v (elt A ((i).toNat * 1)))], [(1, ⟨65, [.v (.int .i64 k1), .v (.slice A xs.length ca), .v (.string s1)]⟩)]⟩ (by kernel_rfl) ?_
            refine X.load (t := 29) (A := A) (j := (i).toNat * 1) (x := .tmp 41) (z := .int .u32 (xs.getD ((i).toNat) 0)) [.int .u32 (xs.getD ((i).toNat) 0)] (by kernel_rfl) (by kernel_rfl) at28 (by kernel_rfl) (by kernel_rfl) ?_
            refine X.run 1 [1, 4, 6, 43] [1] (.ops (aA B110 [1, 1, 1, 1, 1, 1, 0, 1, 0, 0, 1, 0, 0, 0]) (oA B110 [1, 1, 1, 1, 1, 1, 0, 1, 0, 0, 1, 0, 0, 0] 6 :: lA B110 [1, 1, 1, 1, 1, 1, 0, 1, 0, 0, 1, 0, 0, 0] 7)) [.seq (cA B110 [1, 1, 1, 1, 1, 1, 0, 1, 0, 0, 1, 0, 0, 1]), .blk 3, .seq (cA B110 [1, 1, 1, 1, 1, 1, 0, 1, 0, 0, 1, 1]), .loop J24, .blk 2, .seq (cA B110 [1, 1, 1, 1, 1, 1, 1])] ⟨57, [(1, .own 1 0), (4, .v (.int .u64 4294967296)), (6, .v (.int .i64 i)), (43, .v (.int .u64 (IntKind.u64.wrap (xs.getD ((i).toNat) 0))))], [(1, ⟨65, [.v (.int .i64 k1), .v (.slice A xs.length ca), .v (.string s1)]⟩)]⟩ (by kernel_rfl) ?_
            refine X.known 43 (y := .v (.int .u64 (xs.getD ((i).toNat) 0))) rfl (congrArg (fun z_ => AV.v (.int .u64 z_)) (wu64 (by omega) (by omega))) ?_
            refine X.run 4 [1, 4, 6, 45] [1] (.code (cA B110 [1, 1, 1, 1, 1, 1, 0, 1, 0, 0, 1, 0, 0, 1])) [.blk 3, .seq (cA B110 [1, 1, 1, 1, 1, 1, 0, 1, 0, 0, 1, 1]), .loop J24, .blk 2, .seq (cA B110 [1, 1, 1, 1, 1, 1, 1])] ⟨57, [(1, .own 1 0), (4, .v (.int .u64 4294967296)), (6, .v (.int .i64 i)), (45, .v (.bool (decide (xs.getD ((i).toNat) 0 ≥ 4294967296))))], [(1, ⟨65, [.v (.int .i64 k1), .v (.slice A xs.length ca), .v (.string s1)]⟩)]⟩ (by kernel_rfl) ?_
            refine X.split 45 rfl (fun h29 => ?_) (fun h29 => ?_)
            · -- slot 45: decide (xs.getD ((i).toNat) 0 ≥ 4294967296) is True
              replace h29 : xs.getD ((i).toNat) 0 ≥ 4294967296 := of_decide_eq_true h29
              refine X.run 12 [2] [] (.ex .ret) [] ⟨57, [(2, .v (.bool false))], []⟩ (by kernel_rfl) ?_
              refine doneG (.inl rfl) [.bool false] [] (by kernel_rfl) rfl rfl (Ge.refl _ _) ?_
              -- end 13 (FFFTTT)
              refine ⟨congrArg Value.bool ?_, rfl⟩
              first | exact (fine_raw (show 2 ≤ k1 ∧ k1 ≤ 255 from ⟨by omega, by omega⟩) (show szk k1 ≠ 0 by rw [show k1 = 8 by assumption]; decide) (by assumption)).symm | exact (fine_big (show 2 ≤ k1 ∧ k1 ≤ 255 from ⟨by omega, by omega⟩) (show szk k1 ≠ 0 by rw [show k1 = 8 by assumption]; decide) (show (256 : Int) ^ (szk k1).toNat = 4294967296 by rw [show k1 = 8 by assumption]; rfl) (getD_mem (i := i.toNat) (d := 0) (by omega)) (by omega)).symm
            · -- slot 45: decide (xs.getD ((i).toNat) 0 ≥ 4294967296) is False
              replace h29 : ¬ (xs.getD ((i).toNat) 0 ≥ 4294967296) := of_decide_eq_false h29
              refine X.run 9 [1, 4, 6] [1] (.ex .normal) [.loop J24, .blk 2, .seq (cA B110 [1, 1, 1, 1, 1, 1, 1])] ⟨57, [(1, .own 1 0), (4, .v (.int .u64 4294967296)), (6, .v (.int .i64 (IntKind.i64.wrap (i + 1))))], [(1, ⟨65, [.v (.int .i64 k1), .v (.slice A xs.length ca), .v (.string s1)]⟩)]⟩ (by kernel_rfl) ?_
              -- again (FFFTTF)
              have e1 : IntKind.i64.wrap (i + 1) = i + 1 := wi64 (by omega) (by omega)
              have e0 : (i + 1).toNat = i.toNat + 1 := by omega
              exact X.again (hJ24 _ _ _ _ ⟨IntKind.i64.wrap (i + 1), rfl, rfl, rfl, ⟨by omega, by omega, by rw [e1, e0]; exact take_all (d := 0) hi2 (by omega) (by omega)⟩, rfl⟩ (by rw [e1]; omega))
          · -- slot 35: decide (i < ((xs.length : Nat) : Int)) is False
            replace h25 : ¬ (i < ((xs.length : Nat) : Int)) := of_decide_eq_false h25
            refine X.run 12 [1, 49] [1] (.ops (aA B110 [1, 1, 1, 1, 1, 1, 1, 0]) (oA B110 [1, 1, 1, 1, 1, 1, 1, 0] 4 :: lA B110 [1, 1, 1, 1, 1, 1, 1, 0] 5)) [.seq (cA B110 [1, 1, 1, 1, 1, 1, 1, 1])] ⟨57, [(1, .own 1 0), (49, .v (.bool (s1.toList == (⟨#[]⟩ : ByteArray).toList)))], [(1, ⟨65, [.v (.int .i64 k1), .v (.slice A xs.length ca), .v (.string s1)]⟩)]⟩ (by kernel_rfl) ?_
            refine X.split 49 rfl (fun h30 => ?_) (fun h30 => ?_)
            · -- slot 49: (s1.toList == (⟨#[]⟩ : ByteArray).toList) is True
              replace h30 : s1 = (⟨#[]⟩ : ByteArray) := strT h30
              refine X.run 5 [49, 51, 54] [] (.ops (aA B110 [1, 1, 1, 1, 1, 1, 1, 0]) (oA B110 [1, 1, 1, 1, 1, 1, 1, 0] 9 :: lA B110 [1, 1, 1, 1, 1, 1, 1, 0] 10)) [.seq (cA B110 [1, 1, 1, 1, 1, 1, 1, 1])] ⟨57, [(49, .v (.bool true)), (51, .v (.int .i64 k1)), (54, .v (.int .i64 ((xs.length : Nat) : Int)))], []⟩ (by kernel_rfl) ?_
              refine X.inline (f := 121) (l := [.v (.int .i64 k1), .v (.int .i64 ((xs.length : Nat) : Int))]) (fn := Try.f121) (c := B121) (by kernel_rfl) (by kernel_rfl) Try.func121 (by kernel_rfl) ?_
              intro Q31 M31 hM31 hQ31 fin31
              refine X.run 12 [0, 1, 4, 6] [] (.code (cA B121 [1, 0, 1])) [.seq (cA B121 [1, 1])] ⟨15, [(0, .v (.int .i64 k1)), (1, .v (.int .i64 ((xs.length : Nat) : Int))), (4, .v (.bool false)), (6, .v (.bool (k1 == 2)))], []⟩ (by kernel_rfl) ?_
              refine X.split 6 rfl (fun h32 => ?_) (fun h32 => ?_)
              · -- slot 6: k1 == 2 is True
                replace h32 : k1 = 2 := by simpa using h32
                refine X.run 10 [4] [] (.ex .ret) [] ⟨15, [(4, .v (.bool (((xs.length : Nat) : Int) == 1)))], []⟩ (by kernel_rfl) ?_
                refine fin31 _ _ _ _ [.bool (((xs.length : Nat) : Int) == 1)] [] (.inl rfl) (by kernel_rfl) (by kernel_rfl) ?_
                refine X.run 5 [2] [] (.ex .ret) [] ⟨57, [(2, .v (.bool (((xs.length : Nat) : Int) == 1)))], []⟩ (by kernel_rfl) ?_
                refine doneG (.inl rfl) [.bool (((xs.length : Nat) : Int) == 1)] [] (by kernel_rfl) rfl rfl (Ge.refl _ _) ?_
                -- end 15 (FFFTFTT)
                refine ⟨congrArg Value.bool ?_, rfl⟩
                rw [List.take_of_length_le (by omega)] at hi2
                rw [fine_eq (show 2 ≤ k1 ∧ k1 ≤ 255 from ⟨by omega, by omega⟩) (show szk k1 ≠ 0 by rw [show k1 = 8 by assumption]; decide), (show (256 : Int) ^ (szk k1).toNat = 4294967296 by rw [show k1 = 8 by assumption]; rfl), decide_eq_true (show s1 = ⟨#[]⟩ by assumption), decide_eq_true hi2, show k1 = 8 by assumption, show lk2 8 = 2 from rfl, show mk2 8 = 2 from rfl, Bool.eq_iff_iff]
                simp <;> omega
              · -- slot 6: k1 == 2 is False
                replace h32 : k1 ≠ 2 := by simpa using h32
                refine X.run 10 [1, 4, 10] [] (.code (cA B121 [1, 1, 0, 1])) [.seq (cA B121 [1, 1, 1])] ⟨15, [(1, .v (.int .i64 ((xs.length : Nat) : Int))), (4, .v (.bool false)), (10, .v (.bool (k1 == 8)))], []⟩ (by kernel_rfl) ?_
                refine X.split 10 rfl (fun h33 => ?_) (fun h33 => ?_)
                · -- slot 10: k1 == 8 is True
                  replace h33 : k1 = 8 := by simpa using h33
                  refine X.run 10 [4] [] (.ex .ret) [] ⟨15, [(4, .v (.bool (((xs.length : Nat) : Int) == 2)))], []⟩ (by kernel_rfl) ?_
                  refine fin31 _ _ _ _ [.bool (((xs.length : Nat) : Int) == 2)] [] (.inl rfl) (by kernel_rfl) (by kernel_rfl) ?_
                  refine X.run 5 [2] [] (.ex .ret) [] ⟨57, [(2, .v (.bool (((xs.length : Nat) : Int) == 2)))], []⟩ (by kernel_rfl) ?_
                  refine doneG (.inl rfl) [.bool (((xs.length : Nat) : Int) == 2)] [] (by kernel_rfl) rfl rfl (Ge.refl _ _) ?_
                  -- end 17 (FFFTFTFT)
                  refine ⟨congrArg Value.bool ?_, rfl⟩
                  rw [List.take_of_length_le (by omega)] at hi2
                  rw [fine_eq (show 2 ≤ k1 ∧ k1 ≤ 255 from ⟨by omega, by omega⟩) (show szk k1 ≠ 0 by rw [show k1 = 8 by assumption]; decide), (show (256 : Int) ^ (szk k1).toNat = 4294967296 by rw [show k1 = 8 by assumption]; rfl), decide_eq_true (show s1 = ⟨#[]⟩ by assumption), decide_eq_true hi2, show k1 = 8 by assumption, show lk2 8 = 2 from rfl, show mk2 8 = 2 from rfl, Bool.eq_iff_iff]
                  simp <;> omega
                · -- slot 10: k1 == 8 is False
                  replace h33 : k1 ≠ 8 := by simpa using h33
                  refine X.run 11 [4] [] (.ex .ret) [] ⟨15, [(4, .v (.bool (decide (((xs.length : Nat) : Int) ≤ 3))))], []⟩ (by kernel_rfl) ?_
                  refine fin31 _ _ _ _ [.bool (decide (((xs.length : Nat) : Int) ≤ 3))] [] (.inl rfl) (by kernel_rfl) (by kernel_rfl) ?_
                  refine X.run 5 [2] [] (.ex .ret) [] ⟨57, [(2, .v (.bool (decide (((xs.length : Nat) : Int) ≤ 3))))], []⟩ (by kernel_rfl) ?_
                  refine doneG (.inl rfl) [.bool (decide (((xs.length : Nat) : Int) ≤ 3))] [] (by kernel_rfl) rfl rfl (Ge.refl _ _) ?_
                  -- end 19 (FFFTFTFF)
                  refine ⟨congrArg Value.bool ?_, rfl⟩
                  rw [List.take_of_length_le (by omega)] at hi2
                  rw [fine_eq (show 2 ≤ k1 ∧ k1 ≤ 255 from ⟨by omega, by omega⟩) (show szk k1 ≠ 0 by rw [show k1 = 8 by assumption]; decide), (show (256 : Int) ^ (szk k1).toNat = 4294967296 by rw [show k1 = 8 by assumption]; rfl), decide_eq_true (show s1 = ⟨#[]⟩ by assumption), decide_eq_true hi2, show k1 = 8 by assumption, show lk2 8 = 2 from rfl, show mk2 8 = 2 from rfl, Bool.eq_iff_iff]
                  simp <;> omega
            · -- slot 49: (s1.toList == (⟨#[]⟩ : ByteArray).toList) is False
              replace h30 : s1 ≠ (⟨#[]⟩ : ByteArray) := strF h30
              refine X.run 11 [2] [] (.ex .ret) [] ⟨57, [(2, .v (.bool false))], []⟩ (by kernel_rfl) ?_
              refine doneG (.inl rfl) [.bool false] [] (by kernel_rfl) rfl rfl (Ge.refl _ _) ?_
              -- end 20 (FFFTFF)
              refine ⟨congrArg Value.bool ?_, rfl⟩
              first | exact (fine_raw (show 2 ≤ k1 ∧ k1 ≤ 255 from ⟨by omega, by omega⟩) (show szk k1 ≠ 0 by rw [show k1 = 8 by assumption]; decide) (by assumption)).symm | exact (fine_big (show 2 ≤ k1 ∧ k1 ≤ 255 from ⟨by omega, by omega⟩) (show szk k1 ≠ 0 by rw [show k1 = 8 by assumption]; decide) (show (256 : Int) ^ (szk k1).toNat = 4294967296 by rw [show k1 = 8 by assumption]; rfl) (getD_mem (i := i.toNat) (d := 0) (by omega)) (by omega)).symm
        · -- slot 6: k1 == 8 is False
          replace h18 : k1 ≠ 8 := by simpa using h18
          refine X.run 9 [0, 2, 9] [1001] (.ops (aA B112 [1, 1, 1, 0, 0]) (oA B112 [1, 1, 1, 0, 0] 3 :: lA B112 [1, 1, 1, 0, 0] 4)) [.seq (cA B112 [1, 1, 1, 0, 1]), .seq (cA B112 [1, 1, 1, 1])] ⟨13, [(0, .v (.int .i64 k1)), (2, .v (.int .i64 0)), (9, .v (.bool (k1 == 172)))], [(1001, ⟨65, [.v (.int .i64 k1), .v (.slice A xs.length ca), .v (.string s1)]⟩)]⟩ (by kernel_rfl) ?_
          refine X.split 9 rfl (fun h34 => ?_) (fun h34 => ?_)
          · -- slot 9: k1 == 172 is True
            replace h34 : k1 = 172 := by simpa using h34
            refine X.run 13 [2] [1001] (.ex .ret) [] ⟨13, [(2, .v (.int .i64 3))], [(1001, ⟨65, [.v (.int .i64 k1), .v (.slice A xs.length ca), .v (.string s1)]⟩)]⟩ (by kernel_rfl) ?_
            refine fin3 _ _ _ _ [.int .i64 3] [(1, ⟨65, [.v (.int .i64 k1), .v (.slice A xs.length ca), .v (.string s1)]⟩)] (.inl rfl) (by kernel_rfl) (by kernel_rfl) ?_
            refine X.run 25 [1, 2, 3, 4, 5] [1] (.code (cA B110 [1, 1, 1, 1, 1, 0, 1, 0])) [.blk 0, .seq (cA B110 [1, 1, 1, 1, 1, 1])] ⟨57, [(1, .own 1 0), (2, .v (.bool false)), (3, .v (.int .i64 3)), (4, .v (.int .u64 1)), (5, .v (.int .i64 0))], [(1, ⟨65, [.v (.int .i64 k1), .v (.slice A xs.length ca), .v (.string s1)]⟩)]⟩ (by kernel_rfl) ?_
            refine X.rounds 6 ?_
            refine RX.succ fun J35 hJ35 => ?_
            refine X.run 25 [1, 2, 3, 4, 5, 24, 25, 26, 27, 28, 29, 30] [1] (.ex .normal) [.loop J35, .blk 0, .seq (cA B110 [1, 1, 1, 1, 1, 1])] ⟨57, [(1, .own 1 0), (2, .v (.bool false)), (3, .v (.int .i64 3)), (4, .v (.int .u64 256)), (5, .v (.int .i64 1)), (24, .v (.int .i64 0)), (25, .v (.int .i64 3)), (26, .v (.bool true)), (27, .v (.int .i64 0)), (28, .v (.int .i64 1)), (29, .v (.int .u64 1)), (30, .v (.int .u64 256))], [(1, ⟨65, [.v (.int .i64 k1), .v (.slice A xs.length ca), .v (.string s1)]⟩)]⟩ (by kernel_rfl) ?_
            refine X.again (hJ35 _ _ _ ?_)
            refine RX.succ fun J36 hJ36 => ?_
            refine X.run 25 [1, 2, 3, 4, 5, 24, 25, 26, 27, 28, 29, 30] [1] (.ex .normal) [.loop J36, .blk 0, .seq (cA B110 [1, 1, 1, 1, 1, 1])] ⟨57, [(1, .own 1 0), (2, .v (.bool false)), (3, .v (.int .i64 3)), (4, .v (.int .u64 65536)), (5, .v (.int .i64 2)), (24, .v (.int .i64 1)), (25, .v (.int .i64 3)), (26, .v (.bool true)), (27, .v (.int .i64 1)), (28, .v (.int .i64 2)), (29, .v (.int .u64 256)), (30, .v (.int .u64 65536))], [(1, ⟨65, [.v (.int .i64 k1), .v (.slice A xs.length ca), .v (.string s1)]⟩)]⟩ (by kernel_rfl) ?_
            refine X.again (hJ36 _ _ _ ?_)
            refine RX.succ fun J37 hJ37 => ?_
            refine X.run 25 [1, 2, 3, 4, 5, 24, 25, 26, 27, 28, 29, 30] [1] (.ex .normal) [.loop J37, .blk 0, .seq (cA B110 [1, 1, 1, 1, 1, 1])] ⟨57, [(1, .own 1 0), (2, .v (.bool false)), (3, .v (.int .i64 3)), (4, .v (.int .u64 16777216)), (5, .v (.int .i64 3)), (24, .v (.int .i64 2)), (25, .v (.int .i64 3)), (26, .v (.bool true)), (27, .v (.int .i64 2)), (28, .v (.int .i64 3)), (29, .v (.int .u64 65536)), (30, .v (.int .u64 16777216))], [(1, ⟨65, [.v (.int .i64 k1), .v (.slice A xs.length ca), .v (.string s1)]⟩)]⟩ (by kernel_rfl) ?_
            refine X.again (hJ37 _ _ _ ?_)
            refine RX.succ fun J38 hJ38 => ?_
            refine X.run 21 [1, 2, 4, 6] [1] (.code (cA B110 [1, 1, 1, 1, 1, 1, 0, 1, 0])) [.blk 2, .seq (cA B110 [1, 1, 1, 1, 1, 1, 1])] ⟨57, [(1, .own 1 0), (2, .v (.bool false)), (4, .v (.int .u64 16777216)), (6, .v (.int .i64 0))], [(1, ⟨65, [.v (.int .i64 k1), .v (.slice A xs.length ca), .v (.string s1)]⟩)]⟩ (by kernel_rfl) ?_
            refine X.run 0 [1, 4, 6] [1] (.code (cA B110 [1, 1, 1, 1, 1, 1, 0, 1, 0])) [.blk 2, .seq (cA B110 [1, 1, 1, 1, 1, 1, 1])] ⟨57, [(1, .own 1 0), (4, .v (.int .u64 16777216)), (6, .v (.int .i64 0))], [(1, ⟨65, [.v (.int .i64 k1), .v (.slice A xs.length ca), .v (.string s1)]⟩)]⟩ (by kernel_rfl) ?_
            refine X.loopJ (fun m s R' G' => ∃ (i : Int), s = ⟨57, [(1, .own 1 0), (4, .v (.int .u64 16777216)), (6, .v (.int .i64 i))], [(1, ⟨65, [.v (.int .i64 k1), .v (.slice A xs.length ca), .v (.string s1)]⟩)]⟩ ∧ R' = [] ∧ G = G' ∧ (0 ≤ i ∧ i ≤ (xs.length : Int) ∧ ∀ n ∈ xs.take i.toNat, n < 16777216) ∧ m = ((xs.length : Int) - i).toNat) _ ⟨0, rfl, rfl, rfl, ⟨by omega, by omega, by simp⟩, rfl⟩ ?_
            rintro m39 s39 R39 G39 ⟨i, rfl, rfl, rfl, hF39, rfl⟩ J39 hJ39
            obtain ⟨hi0, hi1, hi2⟩ := hF39
            refine X.run 10 [1, 4, 6, 35] [1] (.code (cA B110 [1, 1, 1, 1, 1, 1, 0, 1, 0, 0, 0, 1])) [.seq (cA B110 [1, 1, 1, 1, 1, 1, 0, 1, 0, 0, 1]), .loop J39, .blk 2, .seq (cA B110 [1, 1, 1, 1, 1, 1, 1])] ⟨57, [(1, .own 1 0), (4, .v (.int .u64 16777216)), (6, .v (.int .i64 i)), (35, .v (.bool (decide (i < ((xs.length : Nat) : Int)))))], [(1, ⟨65, [.v (.int .i64 k1), .v (.slice A xs.length ca), .v (.string s1)]⟩)]⟩ (by kernel_rfl) ?_
            refine X.split 35 rfl (fun h40 => ?_) (fun h40 => ?_)
            · -- slot 35: decide (i < ((xs.length : Nat) : Int)) is True
              replace h40 : i < ((xs.length : Nat) : Int) := of_decide_eq_true h40
              refine X.run 10 [1, 4, 6, 39, 40] [1] (.ops (aA B110 [1, 1, 1, 1, 1, 1, 0, 1, 0, 0, 1, 0, 0, 0]) (oA B110 [1, 1, 1, 1, 1, 1, 0, 1, 0, 0, 1, 0, 0, 0] 3 :: lA B110 [1, 1, 1, 1, 1, 1, 0, 1, 0, 0, 1, 0, 0, 0] 4)) [.seq (cA B110 [1, 1, 1, 1, 1, 1, 0, 1, 0, 0, 1, 0, 0, 1]), .blk 3, .seq (cA B110 [1, 1, 1, 1, 1, 1, 0, 1, 0, 0, 1, 1]), .loop J39, .blk 2, .seq (cA B110 [1, 1, 1, 1, 1, 1, 1])] ⟨57, [(1, .own 1 0), (4, .v (.int .u64 16777216)), (6, .v (.int .i64 i)), (39, .v (.slice A xs.length ca)), (40, .v (.int .i64 i))], [(1, ⟨65, [.v (.int .i64 k1), .v (.slice A xs.length ca), .v (.string s1)]⟩)]⟩ (by kernel_rfl) ?_
              have b41 : (0 : Int) ≤ i := by omega
              have b42 : i < ((xs.length : Nat) : Int) := by omega
              refine X.index (t := 63) (e := 29) (sz := 1) (A := A) (n := xs.length) (c := ca) (ki := .i64) (i := i) (x := .tmp 39) (ix := .tmp 40) (by kernel_rfl) (by kernel_rfl) (by kernel_rfl) (by kernel_rfl) (by kernel_rfl) (by kernel_rfl) b41 b42 (fun _ _ => rowAt.so hx (by omega)) ?_
              obtain ⟨at43, lo43, hi43⟩ := At.int [] hx ((i).toNat) (by omega)
              simp only [IntKind.lo, IntKind.hi] at lo43 hi43
              refine X.run 0 [1, 4, 6, 41] [1] (.ops (aA B110 [1, 1, 1, 1, 1, 1, 0, 1, 0, 0, 1, 0, 0, 0]) (oA B110 [1, 1, 1, 1, 1, 1, 0, 1, 0, 0, 1, 0, 0, 0] 4 :: lA B110 [1, 1, 1, 1, 1, 1, 0, 1, 0, 0, 1, 0, 0, 0] 5)) [.seq (cA B110 [1, 1, 1, 1, 1, 1, 0, 1, 0, 0, 1, 0, 0, 1]), .blk 3, .seq (cA B110 [1, 1, 1, 1, 1, 1, 0, 1, 0, 0, 1, 1]), .loop J39, .blk 2, .seq (cA B110 [1, 1, 1, 1, 1, 1, 1])] ⟨57, [(1, .own 1 0), (4, .v (.int .u64 16777216)), (6, .v (.int .i64 i)), (41, .v (elt A ((i).toNat * 1)))], [(1, ⟨65, [.v (.int .i64 k1), .v (.slice A xs.length ca), .v (.string s1)]⟩)]⟩ (by kernel_rfl) ?_
              refine X.load (t := 29) (A := A) (j := (i).toNat * 1) (x := .tmp 41) (z := .int .u32 (xs.getD ((i).toNat) 0)) [.int .u32 (xs.getD ((i).toNat) 0)] (by kernel_rfl) (by kernel_rfl) at43 (by kernel_rfl) (by kernel_rfl) ?_
              refine X.run 1 [1, 4, 6, 43] [1] (.ops (aA B110 [1, 1, 1, 1, 1, 1, 0, 1, 0, 0, 1, 0, 0, 0]) (oA B110 [1, 1, 1, 1, 1, 1, 0, 1, 0, 0, 1, 0, 0, 0] 6 :: lA B110 [1, 1, 1, 1, 1, 1, 0, 1, 0, 0, 1, 0, 0, 0] 7)) [.seq (cA B110 [1, 1, 1, 1, 1, 1, 0, 1, 0, 0, 1, 0, 0, 1]), .blk 3, .seq (cA B110 [1, 1, 1, 1, 1, 1, 0, 1, 0, 0, 1, 1]), .loop J39, .blk 2, .seq (cA B110 [1, 1, 1, 1, 1, 1, 1])] ⟨57, [(1, .own 1 0), (4, .v (.int .u64 16777216)), (6, .v (.int .i64 i)), (43, .v (.int .u64 (IntKind.u64.wrap (xs.getD ((i).toNat) 0))))], [(1, ⟨65, [.v (.int .i64 k1), .v (.slice A xs.length ca), .v (.string s1)]⟩)]⟩ (by kernel_rfl) ?_
              refine X.known 43 (y := .v (.int .u64 (xs.getD ((i).toNat) 0))) rfl (congrArg (fun z_ => AV.v (.int .u64 z_)) (wu64 (by omega) (by omega))) ?_
              refine X.run 4 [1, 4, 6, 45] [1] (.code (cA B110 [1, 1, 1, 1, 1, 1, 0, 1, 0, 0, 1, 0, 0, 1])) [.blk 3, .seq (cA B110 [1, 1, 1, 1, 1, 1, 0, 1, 0, 0, 1, 1]), .loop J39, .blk 2, .seq (cA B110 [1, 1, 1, 1, 1, 1, 1])] ⟨57, [(1, .own 1 0), (4, .v (.int .u64 16777216)), (6, .v (.int .i64 i)), (45, .v (.bool (decide (xs.getD ((i).toNat) 0 ≥ 16777216))))], [(1, ⟨65, [.v (.int .i64 k1), .v (.slice A xs.length ca), .v (.string s1)]⟩)]⟩ (by kernel_rfl) ?_
              refine X.split 45 rfl (fun h44 => ?_) (fun h44 => ?_)
              · -- slot 45: decide (xs.getD ((i).toNat) 0 ≥ 16777216) is True
                replace h44 : xs.getD ((i).toNat) 0 ≥ 16777216 := of_decide_eq_true h44
                refine X.run 12 [2] [] (.ex .ret) [] ⟨57, [(2, .v (.bool false))], []⟩ (by kernel_rfl) ?_
                refine doneG (.inl rfl) [.bool false] [] (by kernel_rfl) rfl rfl (Ge.refl _ _) ?_
                -- end 22 (FFFFTTT)
                refine ⟨congrArg Value.bool ?_, rfl⟩
                first | exact (fine_raw (show 2 ≤ k1 ∧ k1 ≤ 255 from ⟨by omega, by omega⟩) (show szk k1 ≠ 0 by rw [show k1 = 172 by assumption]; decide) (by assumption)).symm | exact (fine_big (show 2 ≤ k1 ∧ k1 ≤ 255 from ⟨by omega, by omega⟩) (show szk k1 ≠ 0 by rw [show k1 = 172 by assumption]; decide) (show (256 : Int) ^ (szk k1).toNat = 16777216 by rw [show k1 = 172 by assumption]; rfl) (getD_mem (i := i.toNat) (d := 0) (by omega)) (by omega)).symm
              · -- slot 45: decide (xs.getD ((i).toNat) 0 ≥ 16777216) is False
                replace h44 : ¬ (xs.getD ((i).toNat) 0 ≥ 16777216) := of_decide_eq_false h44
                refine X.run 9 [1, 4, 6] [1] (.ex .normal) [.loop J39, .blk 2, .seq (cA B110 [1, 1, 1, 1, 1, 1, 1])] ⟨57, [(1, .own 1 0), (4, .v (.int .u64 16777216)), (6, .v (.int .i64 (IntKind.i64.wrap (i + 1))))], [(1, ⟨65, [.v (.int .i64 k1), .v (.slice A xs.length ca), .v (.string s1)]⟩)]⟩ (by kernel_rfl) ?_
                -- again (FFFFTTF)
                have e1 : IntKind.i64.wrap (i + 1) = i + 1 := wi64 (by omega) (by omega)
                have e0 : (i + 1).toNat = i.toNat + 1 := by omega
                exact X.again (hJ39 _ _ _ _ ⟨IntKind.i64.wrap (i + 1), rfl, rfl, rfl, ⟨by omega, by omega, by rw [e1, e0]; exact take_all (d := 0) hi2 (by omega) (by omega)⟩, rfl⟩ (by rw [e1]; omega))
            · -- slot 35: decide (i < ((xs.length : Nat) : Int)) is False
              replace h40 : ¬ (i < ((xs.length : Nat) : Int)) := of_decide_eq_false h40
              refine X.run 12 [1, 49] [1] (.ops (aA B110 [1, 1, 1, 1, 1, 1, 1, 0]) (oA B110 [1, 1, 1, 1, 1, 1, 1, 0] 4 :: lA B110 [1, 1, 1, 1, 1, 1, 1, 0] 5)) [.seq (cA B110 [1, 1, 1, 1, 1, 1, 1, 1])] ⟨57, [(1, .own 1 0), (49, .v (.bool (s1.toList == (⟨#[]⟩ : ByteArray).toList)))], [(1, ⟨65, [.v (.int .i64 k1), .v (.slice A xs.length ca), .v (.string s1)]⟩)]⟩ (by kernel_rfl) ?_
              refine X.split 49 rfl (fun h45 => ?_) (fun h45 => ?_)
              · -- slot 49: (s1.toList == (⟨#[]⟩ : ByteArray).toList) is True
                replace h45 : s1 = (⟨#[]⟩ : ByteArray) := strT h45
                refine X.run 5 [49, 51, 54] [] (.ops (aA B110 [1, 1, 1, 1, 1, 1, 1, 0]) (oA B110 [1, 1, 1, 1, 1, 1, 1, 0] 9 :: lA B110 [1, 1, 1, 1, 1, 1, 1, 0] 10)) [.seq (cA B110 [1, 1, 1, 1, 1, 1, 1, 1])] ⟨57, [(49, .v (.bool true)), (51, .v (.int .i64 k1)), (54, .v (.int .i64 ((xs.length : Nat) : Int)))], []⟩ (by kernel_rfl) ?_
                refine X.inline (f := 121) (l := [.v (.int .i64 k1), .v (.int .i64 ((xs.length : Nat) : Int))]) (fn := Try.f121) (c := B121) (by kernel_rfl) (by kernel_rfl) Try.func121 (by kernel_rfl) ?_
                intro Q46 M46 hM46 hQ46 fin46
                refine X.run 12 [0, 1, 4, 6] [] (.code (cA B121 [1, 0, 1])) [.seq (cA B121 [1, 1])] ⟨15, [(0, .v (.int .i64 k1)), (1, .v (.int .i64 ((xs.length : Nat) : Int))), (4, .v (.bool false)), (6, .v (.bool (k1 == 2)))], []⟩ (by kernel_rfl) ?_
                refine X.split 6 rfl (fun h47 => ?_) (fun h47 => ?_)
                · -- slot 6: k1 == 2 is True
                  replace h47 : k1 = 2 := by simpa using h47
                  refine X.run 10 [4] [] (.ex .ret) [] ⟨15, [(4, .v (.bool (((xs.length : Nat) : Int) == 1)))], []⟩ (by kernel_rfl) ?_
                  refine fin46 _ _ _ _ [.bool (((xs.length : Nat) : Int) == 1)] [] (.inl rfl) (by kernel_rfl) (by kernel_rfl) ?_
                  refine X.run 5 [2] [] (.ex .ret) [] ⟨57, [(2, .v (.bool (((xs.length : Nat) : Int) == 1)))], []⟩ (by kernel_rfl) ?_
                  refine doneG (.inl rfl) [.bool (((xs.length : Nat) : Int) == 1)] [] (by kernel_rfl) rfl rfl (Ge.refl _ _) ?_
                  -- end 24 (FFFFTFTT)
                  refine ⟨congrArg Value.bool ?_, rfl⟩
                  rw [List.take_of_length_le (by omega)] at hi2
                  rw [fine_eq (show 2 ≤ k1 ∧ k1 ≤ 255 from ⟨by omega, by omega⟩) (show szk k1 ≠ 0 by rw [show k1 = 172 by assumption]; decide), (show (256 : Int) ^ (szk k1).toNat = 16777216 by rw [show k1 = 172 by assumption]; rfl), decide_eq_true (show s1 = ⟨#[]⟩ by assumption), decide_eq_true hi2, show k1 = 172 by assumption, show lk2 172 = 0 from rfl, show mk2 172 = 3 from rfl, Bool.eq_iff_iff]
                  simp <;> omega
                · -- slot 6: k1 == 2 is False
                  replace h47 : k1 ≠ 2 := by simpa using h47
                  refine X.run 10 [1, 4, 10] [] (.code (cA B121 [1, 1, 0, 1])) [.seq (cA B121 [1, 1, 1])] ⟨15, [(1, .v (.int .i64 ((xs.length : Nat) : Int))), (4, .v (.bool false)), (10, .v (.bool (k1 == 8)))], []⟩ (by kernel_rfl) ?_
                  refine X.split 10 rfl (fun h48 => ?_) (fun h48 => ?_)
                  · -- slot 10: k1 == 8 is True
                    replace h48 : k1 = 8 := by simpa using h48
                    refine X.run 10 [4] [] (.ex .ret) [] ⟨15, [(4, .v (.bool (((xs.length : Nat) : Int) == 2)))], []⟩ (by kernel_rfl) ?_
                    refine fin46 _ _ _ _ [.bool (((xs.length : Nat) : Int) == 2)] [] (.inl rfl) (by kernel_rfl) (by kernel_rfl) ?_
                    refine X.run 5 [2] [] (.ex .ret) [] ⟨57, [(2, .v (.bool (((xs.length : Nat) : Int) == 2)))], []⟩ (by kernel_rfl) ?_
                    refine doneG (.inl rfl) [.bool (((xs.length : Nat) : Int) == 2)] [] (by kernel_rfl) rfl rfl (Ge.refl _ _) ?_
                    -- end 26 (FFFFTFTFT)
                    refine ⟨congrArg Value.bool ?_, rfl⟩
                    rw [List.take_of_length_le (by omega)] at hi2
                    rw [fine_eq (show 2 ≤ k1 ∧ k1 ≤ 255 from ⟨by omega, by omega⟩) (show szk k1 ≠ 0 by rw [show k1 = 172 by assumption]; decide), (show (256 : Int) ^ (szk k1).toNat = 16777216 by rw [show k1 = 172 by assumption]; rfl), decide_eq_true (show s1 = ⟨#[]⟩ by assumption), decide_eq_true hi2, show k1 = 172 by assumption, show lk2 172 = 0 from rfl, show mk2 172 = 3 from rfl, Bool.eq_iff_iff]
                    simp <;> omega
                  · -- slot 10: k1 == 8 is False
                    replace h48 : k1 ≠ 8 := by simpa using h48
                    refine X.run 11 [4] [] (.ex .ret) [] ⟨15, [(4, .v (.bool (decide (((xs.length : Nat) : Int) ≤ 3))))], []⟩ (by kernel_rfl) ?_
                    refine fin46 _ _ _ _ [.bool (decide (((xs.length : Nat) : Int) ≤ 3))] [] (.inl rfl) (by kernel_rfl) (by kernel_rfl) ?_
                    refine X.run 5 [2] [] (.ex .ret) [] ⟨57, [(2, .v (.bool (decide (((xs.length : Nat) : Int) ≤ 3))))], []⟩ (by kernel_rfl) ?_
                    refine doneG (.inl rfl) [.bool (decide (((xs.length : Nat) : Int) ≤ 3))] [] (by kernel_rfl) rfl rfl (Ge.refl _ _) ?_
                    -- end 28 (FFFFTFTFF)
                    refine ⟨congrArg Value.bool ?_, rfl⟩
                    rw [List.take_of_length_le (by omega)] at hi2
                    rw [fine_eq (show 2 ≤ k1 ∧ k1 ≤ 255 from ⟨by omega, by omega⟩) (show szk k1 ≠ 0 by rw [show k1 = 172 by assumption]; decide), (show (256 : Int) ^ (szk k1).toNat = 16777216 by rw [show k1 = 172 by assumption]; rfl), decide_eq_true (show s1 = ⟨#[]⟩ by assumption), decide_eq_true hi2, show k1 = 172 by assumption, show lk2 172 = 0 from rfl, show mk2 172 = 3 from rfl, Bool.eq_iff_iff]
                    simp <;> omega
              · -- slot 49: (s1.toList == (⟨#[]⟩ : ByteArray).toList) is False
                replace h45 : s1 ≠ (⟨#[]⟩ : ByteArray) := strF h45
                refine X.run 11 [2] [] (.ex .ret) [] ⟨57, [(2, .v (.bool false))], []⟩ (by kernel_rfl) ?_
                refine doneG (.inl rfl) [.bool false] [] (by kernel_rfl) rfl rfl (Ge.refl _ _) ?_
                -- end 29 (FFFFTFF)
                refine ⟨congrArg Value.bool ?_, rfl⟩
                first | exact (fine_raw (show 2 ≤ k1 ∧ k1 ≤ 255 from ⟨by omega, by omega⟩) (show szk k1 ≠ 0 by rw [show k1 = 172 by assumption]; decide) (by assumption)).symm | exact (fine_big (show 2 ≤ k1 ∧ k1 ≤ 255 from ⟨by omega, by omega⟩) (show szk k1 ≠ 0 by rw [show k1 = 172 by assumption]; decide) (show (256 : Int) ^ (szk k1).toNat = 16777216 by rw [show k1 = 172 by assumption]; rfl) (getD_mem (i := i.toNat) (d := 0) (by omega)) (by omega)).symm
          · -- slot 9: k1 == 172 is False
            replace h34 : k1 ≠ 172 := by simpa using h34
            refine X.run 5 [2, 12] [1001] (.code (cA B112 [1, 1, 1, 0, 1])) [.seq (cA B112 [1, 1, 1, 1])] ⟨13, [(2, .v (.int .i64 0)), (12, .v (.bool (k1 == 174)))], [(1001, ⟨65, [.v (.int .i64 k1), .v (.slice A xs.length ca), .v (.string s1)]⟩)]⟩ (by kernel_rfl) ?_
            refine X.split 12 rfl (fun h49 => ?_) (fun h49 => ?_)
            · -- slot 12: k1 == 174 is True
              replace h49 : k1 = 174 := by simpa using h49
              refine X.run 8 [2] [1001] (.ex .ret) [] ⟨13, [(2, .v (.int .i64 3))], [(1001, ⟨65, [.v (.int .i64 k1), .v (.slice A xs.length ca), .v (.string s1)]⟩)]⟩ (by kernel_rfl) ?_
              refine fin3 _ _ _ _ [.int .i64 3] [(1, ⟨65, [.v (.int .i64 k1), .v (.slice A xs.length ca), .v (.string s1)]⟩)] (.inl rfl) (by kernel_rfl) (by kernel_rfl) ?_
              refine X.run 25 [1, 2, 3, 4, 5] [1] (.code (cA B110 [1, 1, 1, 1, 1, 0, 1, 0])) [.blk 0, .seq (cA B110 [1, 1, 1, 1, 1, 1])] ⟨57, [(1, .own 1 0), (2, .v (.bool false)), (3, .v (.int .i64 3)), (4, .v (.int .u64 1)), (5, .v (.int .i64 0))], [(1, ⟨65, [.v (.int .i64 k1), .v (.slice A xs.length ca), .v (.string s1)]⟩)]⟩ (by kernel_rfl) ?_
              refine X.rounds 6 ?_
              refine RX.succ fun J50 hJ50 => ?_
              refine X.run 25 [1, 2, 3, 4, 5, 24, 25, 26, 27, 28, 29, 30] [1] (.ex .normal) [.loop J50, .blk 0, .seq (cA B110 [1, 1, 1, 1, 1, 1])] ⟨57, [(1, .own 1 0), (2, .v (.bool false)), (3, .v (.int .i64 3)), (4, .v (.int .u64 256)), (5, .v (.int .i64 1)), (24, .v (.int .i64 0)), (25, .v (.int .i64 3)), (26, .v (.bool true)), (27, .v (.int .i64 0)), (28, .v (.int .i64 1)), (29, .v (.int .u64 1)), (30, .v (.int .u64 256))], [(1, ⟨65, [.v (.int .i64 k1), .v (.slice A xs.length ca), .v (.string s1)]⟩)]⟩ (by kernel_rfl) ?_
              refine X.again (hJ50 _ _ _ ?_)
              refine RX.succ fun J51 hJ51 => ?_
              refine X.run 25 [1, 2, 3, 4, 5, 24, 25, 26, 27, 28, 29, 30] [1] (.ex .normal) [.loop J51, .blk 0, .seq (cA B110 [1, 1, 1, 1, 1, 1])] ⟨57, [(1, .own 1 0), (2, .v (.bool false)), (3, .v (.int .i64 3)), (4, .v (.int .u64 65536)), (5, .v (.int .i64 2)), (24, .v (.int .i64 1)), (25, .v (.int .i64 3)), (26, .v (.bool true)), (27, .v (.int .i64 1)), (28, .v (.int .i64 2)), (29, .v (.int .u64 256)), (30, .v (.int .u64 65536))], [(1, ⟨65, [.v (.int .i64 k1), .v (.slice A xs.length ca), .v (.string s1)]⟩)]⟩ (by kernel_rfl) ?_
              refine X.again (hJ51 _ _ _ ?_)
              refine RX.succ fun J52 hJ52 => ?_
              refine X.run 25 [1, 2, 3, 4, 5, 24, 25, 26, 27, 28, 29, 30] [1] (.ex .normal) [.loop J52, .blk 0, .seq (cA B110 [1, 1, 1, 1, 1, 1])] ⟨57, [(1, .own 1 0), (2, .v (.bool false)), (3, .v (.int .i64 3)), (4, .v (.int .u64 16777216)), (5, .v (.int .i64 3)), (24, .v (.int .i64 2)), (25, .v (.int .i64 3)), (26, .v (.bool true)), (27, .v (.int .i64 2)), (28, .v (.int .i64 3)), (29, .v (.int .u64 65536)), (30, .v (.int .u64 16777216))], [(1, ⟨65, [.v (.int .i64 k1), .v (.slice A xs.length ca), .v (.string s1)]⟩)]⟩ (by kernel_rfl) ?_
              refine X.again (hJ52 _ _ _ ?_)
              refine RX.succ fun J53 hJ53 => ?_
              refine X.run 21 [1, 2, 4, 6] [1] (.code (cA B110 [1, 1, 1, 1, 1, 1, 0, 1, 0])) [.blk 2, .seq (cA B110 [1, 1, 1, 1, 1, 1, 1])] ⟨57, [(1, .own 1 0), (2, .v (.bool false)), (4, .v (.int .u64 16777216)), (6, .v (.int .i64 0))], [(1, ⟨65, [.v (.int .i64 k1), .v (.slice A xs.length ca), .v (.string s1)]⟩)]⟩ (by kernel_rfl) ?_
              refine X.run 0 [1, 4, 6] [1] (.code (cA B110 [1, 1, 1, 1, 1, 1, 0, 1, 0])) [.blk 2, .seq (cA B110 [1, 1, 1, 1, 1, 1, 1])] ⟨57, [(1, .own 1 0), (4, .v (.int .u64 16777216)), (6, .v (.int .i64 0))], [(1, ⟨65, [.v (.int .i64 k1), .v (.slice A xs.length ca), .v (.string s1)]⟩)]⟩ (by kernel_rfl) ?_
              refine X.loopJ (fun m s R' G' => ∃ (i : Int), s = ⟨57, [(1, .own 1 0), (4, .v (.int .u64 16777216)), (6, .v (.int .i64 i))], [(1, ⟨65, [.v (.int .i64 k1), .v (.slice A xs.length ca), .v (.string s1)]⟩)]⟩ ∧ R' = [] ∧ G = G' ∧ (0 ≤ i ∧ i ≤ (xs.length : Int) ∧ ∀ n ∈ xs.take i.toNat, n < 16777216) ∧ m = ((xs.length : Int) - i).toNat) _ ⟨0, rfl, rfl, rfl, ⟨by omega, by omega, by simp⟩, rfl⟩ ?_
              rintro m54 s54 R54 G54 ⟨i, rfl, rfl, rfl, hF54, rfl⟩ J54 hJ54
              obtain ⟨hi0, hi1, hi2⟩ := hF54
              refine X.run 10 [1, 4, 6, 35] [1] (.code (cA B110 [1, 1, 1, 1, 1, 1, 0, 1, 0, 0, 0, 1])) [.seq (cA B110 [1, 1, 1, 1, 1, 1, 0, 1, 0, 0, 1]), .loop J54, .blk 2, .seq (cA B110 [1, 1, 1, 1, 1, 1, 1])] ⟨57, [(1, .own 1 0), (4, .v (.int .u64 16777216)), (6, .v (.int .i64 i)), (35, .v (.bool (decide (i < ((xs.length : Nat) : Int)))))], [(1, ⟨65, [.v (.int .i64 k1), .v (.slice A xs.length ca), .v (.string s1)]⟩)]⟩ (by kernel_rfl) ?_
              refine X.split 35 rfl (fun h55 => ?_) (fun h55 => ?_)
              · -- slot 35: decide (i < ((xs.length : Nat) : Int)) is True
                replace h55 : i < ((xs.length : Nat) : Int) := of_decide_eq_true h55
                refine X.run 10 [1, 4, 6, 39, 40] [1] (.ops (aA B110 [1, 1, 1, 1, 1, 1, 0, 1, 0, 0, 1, 0, 0, 0]) (oA B110 [1, 1, 1, 1, 1, 1, 0, 1, 0, 0, 1, 0, 0, 0] 3 :: lA B110 [1, 1, 1, 1, 1, 1, 0, 1, 0, 0, 1, 0, 0, 0] 4)) [.seq (cA B110 [1, 1, 1, 1, 1, 1, 0, 1, 0, 0, 1, 0, 0, 1]), .blk 3, .seq (cA B110 [1, 1, 1, 1, 1, 1, 0, 1, 0, 0, 1, 1]), .loop J54, .blk 2, .seq (cA B110 [1, 1, 1, 1, 1, 1, 1])] ⟨57, [(1, .own 1 0), (4, .v (.int .u64 16777216)), (6, .v (.int .i64 i)), (39, .v (.slice A xs.length ca)), (40, .v (.int .i64 i))], [(1, ⟨65, [.v (.int .i64 k1), .v (.slice A xs.length ca), .v (.string s1)]⟩)]⟩ (by kernel_rfl) ?_
                have b56 : (0 : Int) ≤ i := by omega
                have b57 : i < ((xs.length : Nat) : Int) := by omega
                refine X.index (t := 63) (e := 29) (sz := 1) (A := A) (n := xs.length) (c := ca) (ki := .i64) (i := i) (x := .tmp 39) (ix := .tmp 40) (by kernel_rfl) (by kernel_rfl) (by kernel_rfl) (by kernel_rfl) (by kernel_rfl) (by kernel_rfl) b56 b57 (fun _ _ => rowAt.so hx (by omega)) ?_
                obtain ⟨at58, lo58, hi58⟩ := At.int [] hx ((i).toNat) (by omega)
                simp only [IntKind.lo, IntKind.hi] at lo58 hi58
                refine X.run 0 [1, 4, 6, 41] [1] (.ops (aA B110 [1, 1, 1, 1, 1, 1, 0, 1, 0, 0, 1, 0, 0, 0]) (oA B110 [1, 1, 1, 1, 1, 1, 0, 1, 0, 0, 1, 0, 0, 0] 4 :: lA B110 [1, 1, 1, 1, 1, 1, 0, 1, 0, 0, 1, 0, 0, 0] 5)) [.seq (cA B110 [1, 1, 1, 1, 1, 1, 0, 1, 0, 0, 1, 0, 0, 1]), .blk 3, .seq (cA B110 [1, 1, 1, 1, 1, 1, 0, 1, 0, 0, 1, 1]), .loop J54, .blk 2, .seq (cA B110 [1, 1, 1, 1, 1, 1, 1])] ⟨57, [(1, .own 1 0), (4, .v (.int .u64 16777216)), (6, .v (.int .i64 i)), (41, .v (elt A ((i).toNat * 1)))], [(1, ⟨65, [.v (.int .i64 k1), .v (.slice A xs.length ca), .v (.string s1)]⟩)]⟩ (by kernel_rfl) ?_
                refine X.load (t := 29) (A := A) (j := (i).toNat * 1) (x := .tmp 41) (z := .int .u32 (xs.getD ((i).toNat) 0)) [.int .u32 (xs.getD ((i).toNat) 0)] (by kernel_rfl) (by kernel_rfl) at58 (by kernel_rfl) (by kernel_rfl) ?_
                refine X.run 1 [1, 4, 6, 43] [1] (.ops (aA B110 [1, 1, 1, 1, 1, 1, 0, 1, 0, 0, 1, 0, 0, 0]) (oA B110 [1, 1, 1, 1, 1, 1, 0, 1, 0, 0, 1, 0, 0, 0] 6 :: lA B110 [1, 1, 1, 1, 1, 1, 0, 1, 0, 0, 1, 0, 0, 0] 7)) [.seq (cA B110 [1, 1, 1, 1, 1, 1, 0, 1, 0, 0, 1, 0, 0, 1]), .blk 3, .seq (cA B110 [1, 1, 1, 1, 1, 1, 0, 1, 0, 0, 1, 1]), .loop J54, .blk 2, .seq (cA B110 [1, 1, 1, 1, 1, 1, 1])] ⟨57, [(1, .own 1 0), (4, .v (.int .u64 16777216)), (6, .v (.int .i64 i)), (43, .v (.int .u64 (IntKind.u64.wrap (xs.getD ((i).toNat) 0))))], [(1, ⟨65, [.v (.int .i64 k1), .v (.slice A xs.length ca), .v (.string s1)]⟩)]⟩ (by kernel_rfl) ?_
                refine X.known 43 (y := .v (.int .u64 (xs.getD ((i).toNat) 0))) rfl (congrArg (fun z_ => AV.v (.int .u64 z_)) (wu64 (by omega) (by omega))) ?_
                refine X.run 4 [1, 4, 6, 45] [1] (.code (cA B110 [1, 1, 1, 1, 1, 1, 0, 1, 0, 0, 1, 0, 0, 1])) [.blk 3, .seq (cA B110 [1, 1, 1, 1, 1, 1, 0, 1, 0, 0, 1, 1]), .loop J54, .blk 2, .seq (cA B110 [1, 1, 1, 1, 1, 1, 1])] ⟨57, [(1, .own 1 0), (4, .v (.int .u64 16777216)), (6, .v (.int .i64 i)), (45, .v (.bool (decide (xs.getD ((i).toNat) 0 ≥ 16777216))))], [(1, ⟨65, [.v (.int .i64 k1), .v (.slice A xs.length ca), .v (.string s1)]⟩)]⟩ (by kernel_rfl) ?_
                refine X.split 45 rfl (fun h59 => ?_) (fun h59 => ?_)
                · -- slot 45: decide (xs.getD ((i).toNat) 0 ≥ 16777216) is True
                  replace h59 : xs.getD ((i).toNat) 0 ≥ 16777216 := of_decide_eq_true h59
                  refine X.run 12 [2] [] (.ex .ret) [] ⟨57, [(2, .v (.bool false))], []⟩ (by kernel_rfl) ?_
                  refine doneG (.inl rfl) [.bool false] [] (by kernel_rfl) rfl rfl (Ge.refl _ _) ?_
                  -- end 31 (FFFFFTTT)
                  refine ⟨congrArg Value.bool ?_, rfl⟩
                  first | exact (fine_raw (show 2 ≤ k1 ∧ k1 ≤ 255 from ⟨by omega, by omega⟩) (show szk k1 ≠ 0 by rw [show k1 = 174 by assumption]; decide) (by assumption)).symm | exact (fine_big (show 2 ≤ k1 ∧ k1 ≤ 255 from ⟨by omega, by omega⟩) (show szk k1 ≠ 0 by rw [show k1 = 174 by assumption]; decide) (show (256 : Int) ^ (szk k1).toNat = 16777216 by rw [show k1 = 174 by assumption]; rfl) (getD_mem (i := i.toNat) (d := 0) (by omega)) (by omega)).symm
                · -- slot 45: decide (xs.getD ((i).toNat) 0 ≥ 16777216) is False
                  replace h59 : ¬ (xs.getD ((i).toNat) 0 ≥ 16777216) := of_decide_eq_false h59
                  refine X.run 9 [1, 4, 6] [1] (.ex .normal) [.loop J54, .blk 2, .seq (cA B110 [1, 1, 1, 1, 1, 1, 1])] ⟨57, [(1, .own 1 0), (4, .v (.int .u64 16777216)), (6, .v (.int .i64 (IntKind.i64.wrap (i + 1))))], [(1, ⟨65, [.v (.int .i64 k1), .v (.slice A xs.length ca), .v (.string s1)]⟩)]⟩ (by kernel_rfl) ?_
                  -- again (FFFFFTTF)
                  have e1 : IntKind.i64.wrap (i + 1) = i + 1 := wi64 (by omega) (by omega)
                  have e0 : (i + 1).toNat = i.toNat + 1 := by omega
                  exact X.again (hJ54 _ _ _ _ ⟨IntKind.i64.wrap (i + 1), rfl, rfl, rfl, ⟨by omega, by omega, by rw [e1, e0]; exact take_all (d := 0) hi2 (by omega) (by omega)⟩, rfl⟩ (by rw [e1]; omega))
              · -- slot 35: decide (i < ((xs.length : Nat) : Int)) is False
                replace h55 : ¬ (i < ((xs.length : Nat) : Int)) := of_decide_eq_false h55
                refine X.run 12 [1, 49] [1] (.ops (aA B110 [1, 1, 1, 1, 1, 1, 1, 0]) (oA B110 [1, 1, 1, 1, 1, 1, 1, 0] 4 :: lA B110 [1, 1, 1, 1, 1, 1, 1, 0] 5)) [.seq (cA B110 [1, 1, 1, 1, 1, 1, 1, 1])] ⟨57, [(1, .own 1 0), (49, .v (.bool (s1.toList == (⟨#[]⟩ : ByteArray).toList)))], [(1, ⟨65, [.v (.int .i64 k1), .v (.slice A xs.length ca), .v (.string s1)]⟩)]⟩ (by kernel_rfl) ?_
                refine X.split 49 rfl (fun h60 => ?_) (fun h60 => ?_)
                · -- slot 49: (s1.toList == (⟨#[]⟩ : ByteArray).toList) is True
                  replace h60 : s1 = (⟨#[]⟩ : ByteArray) := strT h60
                  refine X.run 5 [49, 51, 54] [] (.ops (aA B110 [1, 1, 1, 1, 1, 1, 1, 0]) (oA B110 [1, 1, 1, 1, 1, 1, 1, 0] 9 :: lA B110 [1, 1, 1, 1, 1, 1, 1, 0] 10)) [.seq (cA B110 [1, 1, 1, 1, 1, 1, 1, 1])] ⟨57, [(49, .v (.bool true)), (51, .v (.int .i64 k1)), (54, .v (.int .i64 ((xs.length : Nat) : Int)))], []⟩ (by kernel_rfl) ?_
                  refine X.inline (f := 121) (l := [.v (.int .i64 k1), .v (.int .i64 ((xs.length : Nat) : Int))]) (fn := Try.f121) (c := B121) (by kernel_rfl) (by kernel_rfl) Try.func121 (by kernel_rfl) ?_
                  intro Q61 M61 hM61 hQ61 fin61
                  refine X.run 12 [0, 1, 4, 6] [] (.code (cA B121 [1, 0, 1])) [.seq (cA B121 [1, 1])] ⟨15, [(0, .v (.int .i64 k1)), (1, .v (.int .i64 ((xs.length : Nat) : Int))), (4, .v (.bool false)), (6, .v (.bool (k1 == 2)))], []⟩ (by kernel_rfl) ?_
                  refine X.split 6 rfl (fun h62 => ?_) (fun h62 => ?_)
                  · -- slot 6: k1 == 2 is True
                    replace h62 : k1 = 2 := by simpa using h62
                    refine X.run 10 [4] [] (.ex .ret) [] ⟨15, [(4, .v (.bool (((xs.length : Nat) : Int) == 1)))], []⟩ (by kernel_rfl) ?_
                    refine fin61 _ _ _ _ [.bool (((xs.length : Nat) : Int) == 1)] [] (.inl rfl) (by kernel_rfl) (by kernel_rfl) ?_
                    refine X.run 5 [2] [] (.ex .ret) [] ⟨57, [(2, .v (.bool (((xs.length : Nat) : Int) == 1)))], []⟩ (by kernel_rfl) ?_
                    refine doneG (.inl rfl) [.bool (((xs.length : Nat) : Int) == 1)] [] (by kernel_rfl) rfl rfl (Ge.refl _ _) ?_
                    -- end 33 (FFFFFTFTT)
                    refine ⟨congrArg Value.bool ?_, rfl⟩
                    rw [List.take_of_length_le (by omega)] at hi2
                    rw [fine_eq (show 2 ≤ k1 ∧ k1 ≤ 255 from ⟨by omega, by omega⟩) (show szk k1 ≠ 0 by rw [show k1 = 174 by assumption]; decide), (show (256 : Int) ^ (szk k1).toNat = 16777216 by rw [show k1 = 174 by assumption]; rfl), decide_eq_true (show s1 = ⟨#[]⟩ by assumption), decide_eq_true hi2, show k1 = 174 by assumption, show lk2 174 = 0 from rfl, show mk2 174 = 3 from rfl, Bool.eq_iff_iff]
                    simp <;> omega
                  · -- slot 6: k1 == 2 is False
                    replace h62 : k1 ≠ 2 := by simpa using h62
                    refine X.run 10 [1, 4, 10] [] (.code (cA B121 [1, 1, 0, 1])) [.seq (cA B121 [1, 1, 1])] ⟨15, [(1, .v (.int .i64 ((xs.length : Nat) : Int))), (4, .v (.bool false)), (10, .v (.bool (k1 == 8)))], []⟩ (by kernel_rfl) ?_
                    refine X.split 10 rfl (fun h63 => ?_) (fun h63 => ?_)
                    · -- slot 10: k1 == 8 is True
                      replace h63 : k1 = 8 := by simpa using h63
                      refine X.run 10 [4] [] (.ex .ret) [] ⟨15, [(4, .v (.bool (((xs.length : Nat) : Int) == 2)))], []⟩ (by kernel_rfl) ?_
                      refine fin61 _ _ _ _ [.bool (((xs.length : Nat) : Int) == 2)] [] (.inl rfl) (by kernel_rfl) (by kernel_rfl) ?_
                      refine X.run 5 [2] [] (.ex .ret) [] ⟨57, [(2, .v (.bool (((xs.length : Nat) : Int) == 2)))], []⟩ (by kernel_rfl) ?_
                      refine doneG (.inl rfl) [.bool (((xs.length : Nat) : Int) == 2)] [] (by kernel_rfl) rfl rfl (Ge.refl _ _) ?_
                      -- end 35 (FFFFFTFTFT)
                      refine ⟨congrArg Value.bool ?_, rfl⟩
                      rw [List.take_of_length_le (by omega)] at hi2
                      rw [fine_eq (show 2 ≤ k1 ∧ k1 ≤ 255 from ⟨by omega, by omega⟩) (show szk k1 ≠ 0 by rw [show k1 = 174 by assumption]; decide), (show (256 : Int) ^ (szk k1).toNat = 16777216 by rw [show k1 = 174 by assumption]; rfl), decide_eq_true (show s1 = ⟨#[]⟩ by assumption), decide_eq_true hi2, show k1 = 174 by assumption, show lk2 174 = 0 from rfl, show mk2 174 = 3 from rfl, Bool.eq_iff_iff]
                      simp <;> omega
                    · -- slot 10: k1 == 8 is False
                      replace h63 : k1 ≠ 8 := by simpa using h63
                      refine X.run 11 [4] [] (.ex .ret) [] ⟨15, [(4, .v (.bool (decide (((xs.length : Nat) : Int) ≤ 3))))], []⟩ (by kernel_rfl) ?_
                      refine fin61 _ _ _ _ [.bool (decide (((xs.length : Nat) : Int) ≤ 3))] [] (.inl rfl) (by kernel_rfl) (by kernel_rfl) ?_
                      refine X.run 5 [2] [] (.ex .ret) [] ⟨57, [(2, .v (.bool (decide (((xs.length : Nat) : Int) ≤ 3))))], []⟩ (by kernel_rfl) ?_
                      refine doneG (.inl rfl) [.bool (decide (((xs.length : Nat) : Int) ≤ 3))] [] (by kernel_rfl) rfl rfl (Ge.refl _ _) ?_
                      -- end 37 (FFFFFTFTFF)
                      refine ⟨congrArg Value.bool ?_, rfl⟩
                      rw [List.take_of_length_le (by omega)] at hi2
                      rw [fine_eq (show 2 ≤ k1 ∧ k1 ≤ 255 from ⟨by omega, by omega⟩) (show szk k1 ≠ 0 by rw [show k1 = 174 by assumption]; decide), (show (256 : Int) ^ (szk k1).toNat = 16777216 by rw [show k1 = 174 by assumption]; rfl), decide_eq_true (show s1 = ⟨#[]⟩ by assumption), decide_eq_true hi2, show k1 = 174 by assumption, show lk2 174 = 0 from rfl, show mk2 174 = 3 from rfl, Bool.eq_iff_iff]
                      simp <;> omega
                · -- slot 49: (s1.toList == (⟨#[]⟩ : ByteArray).toList) is False
                  replace h60 : s1 ≠ (⟨#[]⟩ : ByteArray) := strF h60
                  refine X.run 11 [2] [] (.ex .ret) [] ⟨57, [(2, .v (.bool false))], []⟩ (by kernel_rfl) ?_
                  refine doneG (.inl rfl) [.bool false] [] (by kernel_rfl) rfl rfl (Ge.refl _ _) ?_
                  -- end 38 (FFFFFTFF)
                  refine ⟨congrArg Value.bool ?_, rfl⟩
                  first | exact (fine_raw (show 2 ≤ k1 ∧ k1 ≤ 255 from ⟨by omega, by omega⟩) (show szk k1 ≠ 0 by rw [show k1 = 174 by assumption]; decide) (by assumption)).symm | exact (fine_big (show 2 ≤ k1 ∧ k1 ≤ 255 from ⟨by omega, by omega⟩) (show szk k1 ≠ 0 by rw [show k1 = 174 by assumption]; decide) (show (256 : Int) ^ (szk k1).toNat = 16777216 by rw [show k1 = 174 by assumption]; rfl) (getD_mem (i := i.toNat) (d := 0) (by omega)) (by omega)).symm
            · -- slot 12: k1 == 174 is False
              replace h49 : k1 ≠ 174 := by simpa using h49
              refine X.run 9 [2] [1001] (.ex .ret) [] ⟨13, [(2, .v (.int .i64 0))], [(1001, ⟨65, [.v (.int .i64 k1), .v (.slice A xs.length ca), .v (.string s1)]⟩)]⟩ (by kernel_rfl) ?_
              refine fin3 _ _ _ _ [.int .i64 0] [(1, ⟨65, [.v (.int .i64 k1), .v (.slice A xs.length ca), .v (.string s1)]⟩)] (.inl rfl) (by kernel_rfl) (by kernel_rfl) ?_
              refine X.run 22 [2] [] (.ex .ret) [] ⟨57, [(2, .v (.bool (((xs.length : Nat) : Int) == 0)))], []⟩ (by kernel_rfl) ?_
              refine doneG (.inl rfl) [.bool (((xs.length : Nat) : Int) == 0)] [] (by kernel_rfl) rfl rfl (Ge.refl _ _) ?_
              -- end 40 (FFFFFF)
              refine ⟨congrArg Value.bool ?_, rfl⟩
              rw [fine_free (show 2 ≤ k1 ∧ k1 ≤ 255 from ⟨by omega, by omega⟩) (show szk k1 = 0 by unfold szk; rw [if_neg (by omega), if_neg (by omega), if_neg (by omega)])]
              by_cases h_ : xs.length = 0
              · rw [decide_eq_true h_]; simp [h_]
              · rw [decide_eq_false h_]; simp; exact fun e_ => h_ (by rw [e_]; rfl)

/-- leat/leatref12.Had -/
noncomputable def B111 : Code := bodyOf Try.f111
set_option maxHeartbeats 1000000 in
theorem rHad_ok (A : Option Addr) (c : Nat) (xs : List Opt) (k : Int) (G : Mem) (hr : rowAt optD G A xs) (hle : xs.length ≤ c) (hmx : c ≤ maxLen) : CallsG Try.prog 111 [.slice A xs.length c, .int .i64 k] G (fun _ v rows => v = .bool (hadB xs k) ∧ rows = []) := by
  simp only [maxLen] at hmx
  refine CallsG.enter Try.func111 rfl rfl ?_
  intro w
  refine X.run 12 [0, 1, 4, 5] [] (.code (cA B111 [1, 0, 1, 0])) [.blk 0, .seq (cA B111 [1, 1])] ⟨24, [(0, .v (.slice A xs.length c)), (1, .v (.int .i64 k)), (4, .v (.bool false)), (5, .v (.int .i64 0))], []⟩ (by kernel_rfl) ?_
  refine X.run 0 [0, 1, 5] [] (.code (cA B111 [1, 0, 1, 0])) [.blk 0, .seq (cA B111 [1, 1])] ⟨24, [(0, .v (.slice A xs.length c)), (1, .v (.int .i64 k)), (5, .v (.int .i64 0))], []⟩ (by kernel_rfl) ?_
  refine X.loopJ (fun m s R' G' => ∃ (i : Int), s = ⟨24, [(0, .v (.slice A xs.length c)), (1, .v (.int .i64 k)), (5, .v (.int .i64 i))], []⟩ ∧ R' = [] ∧ G = G' ∧ (0 ≤ i ∧ i ≤ (xs.length : Int) ∧ (0 < szk k → ∀ o ∈ xs.take i.toNat, o.1 ≠ k)) ∧ m = ((xs.length : Int) - i).toNat) _ ⟨0, rfl, rfl, rfl, ⟨by omega, by omega, by simp⟩, rfl⟩ ?_
  rintro m1 s1 R1 G1 ⟨i, rfl, rfl, rfl, hF1, rfl⟩ J1 hJ1
  obtain ⟨hi0, hi1, hi2⟩ := hF1
  refine X.run 9 [0, 1, 5, 9] [] (.code (cA B111 [1, 0, 1, 0, 0, 0, 1])) [.seq (cA B111 [1, 0, 1, 0, 0, 1]), .loop J1, .blk 0, .seq (cA B111 [1, 1])] ⟨24, [(0, .v (.slice A xs.length c)), (1, .v (.int .i64 k)), (5, .v (.int .i64 i)), (9, .v (.bool (decide (i < ((xs.length : Nat) : Int)))))], []⟩ (by kernel_rfl) ?_
  refine X.split 9 rfl (fun h2 => ?_) (fun h2 => ?_)
  · -- slot 9: decide (i < ((xs.length : Nat) : Int)) is True
    replace h2 : i < ((xs.length : Nat) : Int) := of_decide_eq_true h2
    refine X.run 9 [0, 1, 5, 12, 13] [] (.ops (aA B111 [1, 0, 1, 0, 0, 1, 0, 0, 0]) (oA B111 [1, 0, 1, 0, 0, 1, 0, 0, 0] 2 :: lA B111 [1, 0, 1, 0, 0, 1, 0, 0, 0] 3)) [.seq (cA B111 [1, 0, 1, 0, 0, 1, 0, 0, 1]), .blk 1, .seq (cA B111 [1, 0, 1, 0, 0, 1, 1]), .loop J1, .blk 0, .seq (cA B111 [1, 1])] ⟨24, [(0, .v (.slice A xs.length c)), (1, .v (.int .i64 k)), (5, .v (.int .i64 i)), (12, .v (.slice A xs.length c)), (13, .v (.int .i64 i))], []⟩ (by kernel_rfl) ?_
    have b3 : (0 : Int) ≤ i := by omega
    have b4 : i < ((xs.length : Nat) : Int) := by omega
    refine X.index (t := 59) (e := 65) (sz := 3) (A := A) (n := xs.length) (c := c) (ki := .i64) (i := i) (x := .tmp 12) (ix := .tmp 13) (by kernel_rfl) (by kernel_rfl) (by kernel_rfl) (by kernel_rfl) (by kernel_rfl) (by kernel_rfl) b3 b4 (fun _ _ => rowAt.so hr (by omega)) ?_
    obtain ⟨A5, c5, at5, kr5, le5, mx5, hr5⟩ := At.opt [] hr ((i).toNat) (by omega)
    simp only [IntKind.lo, IntKind.hi, maxLen] at kr5 mx5
    refine X.run 0 [0, 1, 5, 14] [] (.ops (aA B111 [1, 0, 1, 0, 0, 1, 0, 0, 0]) (oA B111 [1, 0, 1, 0, 0, 1, 0, 0, 0] 3 :: lA B111 [1, 0, 1, 0, 0, 1, 0, 0, 0] 4)) [.seq (cA B111 [1, 0, 1, 0, 0, 1, 0, 0, 1]), .blk 1, .seq (cA B111 [1, 0, 1, 0, 0, 1, 1]), .loop J1, .blk 0, .seq (cA B111 [1, 1])] ⟨24, [(0, .v (.slice A xs.length c)), (1, .v (.int .i64 k)), (5, .v (.int .i64 i)), (14, .v (elt A ((i).toNat * 3)))], []⟩ (by kernel_rfl) ?_
    refine X.field (t := 65) (f := 0) (n := 0) (A := A) (j := (i).toNat * 3) (x := .tmp 14) (by kernel_rfl) (by kernel_rfl) (by kernel_rfl) (by kernel_rfl) ?_
    refine X.run 0 [0, 1, 5, 15] [] (.ops (aA B111 [1, 0, 1, 0, 0, 1, 0, 0, 0]) (oA B111 [1, 0, 1, 0, 0, 1, 0, 0, 0] 4 :: lA B111 [1, 0, 1, 0, 0, 1, 0, 0, 0] 5)) [.seq (cA B111 [1, 0, 1, 0, 0, 1, 0, 0, 1]), .blk 1, .seq (cA B111 [1, 0, 1, 0, 0, 1, 1]), .loop J1, .blk 0, .seq (cA B111 [1, 1])] ⟨24, [(0, .v (.slice A xs.length c)), (1, .v (.int .i64 k)), (5, .v (.int .i64 i)), (15, .v (elt A ((i).toNat * 3 + 0)))], []⟩ (by kernel_rfl) ?_
    refine X.load (t := 3) (A := A) (j := (i).toNat * 3 + 0) (x := .tmp 15) (z := .int .i64 ((xs.getD ((i).toNat) opt0).1)) [.int .i64 ((xs.getD ((i).toNat) opt0).1)] (by kernel_rfl) (by kernel_rfl) (at5.part 0 1) (by kernel_rfl) (by kernel_rfl) ?_
    refine X.run 3 [0, 1, 5, 19] [] (.ops (aA B111 [1, 0, 1, 0, 0, 1, 0, 0, 0]) (oA B111 [1, 0, 1, 0, 0, 1, 0, 0, 0] 8 :: lA B111 [1, 0, 1, 0, 0, 1, 0, 0, 0] 9)) [.seq (cA B111 [1, 0, 1, 0, 0, 1, 0, 0, 1]), .blk 1, .seq (cA B111 [1, 0, 1, 0, 0, 1, 1]), .loop J1, .blk 0, .seq (cA B111 [1, 1])] ⟨24, [(0, .v (.slice A xs.length c)), (1, .v (.int .i64 k)), (5, .v (.int .i64 i)), (19, .v (.bool (((xs.getD ((i).toNat) opt0).1) == k)))], []⟩ (by kernel_rfl) ?_
    refine X.split 19 rfl (fun h6 => ?_) (fun h6 => ?_)
    · -- slot 19: ((xs.getD ((i).toNat) opt0).1) == k is True
      replace h6 : ((xs.getD ((i).toNat) opt0).1) = k := by simpa using h6
      refine X.run 1 [0, 1, 5, 19, 20] [] (.ops (aA B111 [1, 0, 1, 0, 0, 1, 0, 0, 0]) (oA B111 [1, 0, 1, 0, 0, 1, 0, 0, 0] 9 :: lA B111 [1, 0, 1, 0, 0, 1, 0, 0, 0] 10)) [.seq (cA B111 [1, 0, 1, 0, 0, 1, 0, 0, 1]), .blk 1, .seq (cA B111 [1, 0, 1, 0, 0, 1, 1]), .loop J1, .blk 0, .seq (cA B111 [1, 1])] ⟨24, [(0, .v (.slice A xs.length c)), (1, .v (.int .i64 k)), (5, .v (.int .i64 i)), (19, .v (.bool true)), (20, .v (.int .i64 k))], []⟩ (by kernel_rfl) ?_
      refine X.inline (f := 112) (l := [.v (.int .i64 k)]) (fn := Try.f112) (c := B112) (by kernel_rfl) (by kernel_rfl) Try.func112 (by kernel_rfl) ?_
      intro Q7 M7 hM7 hQ7 fin7
      refine X.run 12 [0, 2, 4] [] (.code (cA B112 [1, 0, 1])) [.seq (cA B112 [1, 1])] ⟨13, [(0, .v (.int .i64 k)), (2, .v (.int .i64 0)), (4, .v (.bool (k == 2)))], []⟩ (by kernel_rfl) ?_
      refine X.split 4 rfl (fun h8 => ?_) (fun h8 => ?_)
      · -- slot 4: k == 2 is True
        replace h8 : k = 2 := by simpa using h8
        refine X.run 8 [2] [] (.ex .ret) [] ⟨13, [(2, .v (.int .i64 2))], []⟩ (by kernel_rfl) ?_
        refine fin7 _ _ _ _ [.int .i64 2] [] (.inl rfl) (by kernel_rfl) (by kernel_rfl) ?_
        refine X.run 16 [4] [] (.ex .ret) [] ⟨24, [(4, .v (.bool true))], []⟩ (by kernel_rfl) ?_
        refine doneG (.inl rfl) [.bool true] [] (by kernel_rfl) rfl rfl (Ge.refl _ _) ?_
        -- end 2 (TTT)
        exact ⟨congrArg Value.bool (had_yes (i := i.toNat) (by omega) (by assumption) (by rw [show k = 2 by assumption]; decide)).symm, rfl⟩
      · -- slot 4: k == 2 is False
        replace h8 : k ≠ 2 := by simpa using h8
        refine X.run 10 [0, 2, 6] [] (.code (cA B112 [1, 1, 0, 1])) [.seq (cA B112 [1, 1, 1])] ⟨13, [(0, .v (.int .i64 k)), (2, .v (.int .i64 0)), (6, .v (.bool (k == 8)))], []⟩ (by kernel_rfl) ?_
        refine X.split 6 rfl (fun h9 => ?_) (fun h9 => ?_)
        · -- slot 6: k == 8 is True
          replace h9 : k = 8 := by simpa using h9
          refine X.run 8 [2] [] (.ex .ret) [] ⟨13, [(2, .v (.int .i64 4))], []⟩ (by kernel_rfl) ?_
          refine fin7 _ _ _ _ [.int .i64 4] [] (.inl rfl) (by kernel_rfl) (by kernel_rfl) ?_
          refine X.run 16 [4] [] (.ex .ret) [] ⟨24, [(4, .v (.bool true))], []⟩ (by kernel_rfl) ?_
          refine doneG (.inl rfl) [.bool true] [] (by kernel_rfl) rfl rfl (Ge.refl _ _) ?_
          -- end 4 (TTFT)
          exact ⟨congrArg Value.bool (had_yes (i := i.toNat) (by omega) (by assumption) (by rw [show k = 8 by assumption]; decide)).symm, rfl⟩
        · -- slot 6: k == 8 is False
          replace h9 : k ≠ 8 := by simpa using h9
          refine X.run 9 [0, 2, 9] [] (.ops (aA B112 [1, 1, 1, 0, 0]) (oA B112 [1, 1, 1, 0, 0] 3 :: lA B112 [1, 1, 1, 0, 0] 4)) [.seq (cA B112 [1, 1, 1, 0, 1]), .seq (cA B112 [1, 1, 1, 1])] ⟨13, [(0, .v (.int .i64 k)), (2, .v (.int .i64 0)), (9, .v (.bool (k == 172)))], []⟩ (by kernel_rfl) ?_
          refine X.split 9 rfl (fun h10 => ?_) (fun h10 => ?_)
          · -- slot 9: k == 172 is True
            replace h10 : k = 172 := by simpa using h10
            refine X.run 13 [2] [] (.ex .ret) [] ⟨13, [(2, .v (.int .i64 3))], []⟩ (by kernel_rfl) ?_
            refine fin7 _ _ _ _ [.int .i64 3] [] (.inl rfl) (by kernel_rfl) (by kernel_rfl) ?_
            refine X.run 16 [4] [] (.ex .ret) [] ⟨24, [(4, .v (.bool true))], []⟩ (by kernel_rfl) ?_
            refine doneG (.inl rfl) [.bool true] [] (by kernel_rfl) rfl rfl (Ge.refl _ _) ?_
            -- end 6 (TTFFT)
            exact ⟨congrArg Value.bool (had_yes (i := i.toNat) (by omega) (by assumption) (by rw [show k = 172 by assumption]; decide)).symm, rfl⟩
          · -- slot 9: k == 172 is False
            replace h10 : k ≠ 172 := by simpa using h10
            refine X.run 5 [2, 12] [] (.code (cA B112 [1, 1, 1, 0, 1])) [.seq (cA B112 [1, 1, 1, 1])] ⟨13, [(2, .v (.int .i64 0)), (12, .v (.bool (k == 174)))], []⟩ (by kernel_rfl) ?_
            refine X.split 12 rfl (fun h11 => ?_) (fun h11 => ?_)
            · -- slot 12: k == 174 is True
              replace h11 : k = 174 := by simpa using h11
              refine X.run 8 [2] [] (.ex .ret) [] ⟨13, [(2, .v (.int .i64 3))], []⟩ (by kernel_rfl) ?_
              refine fin7 _ _ _ _ [.int .i64 3] [] (.inl rfl) (by kernel_rfl) (by kernel_rfl) ?_
              refine X.run 16 [4] [] (.ex .ret) [] ⟨24, [(4, .v (.bool true))], []⟩ (by kernel_rfl) ?_
              refine doneG (.inl rfl) [.bool true] [] (by kernel_rfl) rfl rfl (Ge.refl _ _) ?_
              -- end 8 (TTFFFT)
              exact ⟨congrArg Value.bool (had_yes (i := i.toNat) (by omega) (by assumption) (by rw [show k = 174 by assumption]; decide)).symm, rfl⟩
            · -- slot 12: k == 174 is False
              replace h11 : k ≠ 174 := by simpa using h11
              refine X.run 9 [2] [] (.ex .ret) [] ⟨13, [(2, .v (.int .i64 0))], []⟩ (by kernel_rfl) ?_
              refine fin7 _ _ _ _ [.int .i64 0] [] (.inl rfl) (by kernel_rfl) (by kernel_rfl) ?_
              refine X.run 13 [0, 1, 5] [] (.ex .normal) [.loop J1, .blk 0, .seq (cA B111 [1, 1])] ⟨24, [(0, .v (.slice A xs.length c)), (1, .v (.int .i64 k)), (5, .v (.int .i64 (IntKind.i64.wrap (i + 1))))], []⟩ (by kernel_rfl) ?_
              -- again (TTFFFF)
              have e1 : IntKind.i64.wrap (i + 1) = i + 1 := wi64 (by omega) (by omega)
              have e0 : (i + 1).toNat = i.toNat + 1 := by omega
              exact X.again (hJ1 _ _ _ _ ⟨IntKind.i64.wrap (i + 1), rfl, rfl, rfl, ⟨by omega, by omega, by rw [e1, e0]; exact fun hz_ => absurd hz_ (by rw [show szk k = 0 by unfold szk; rw [if_neg (by omega), if_neg (by omega), if_neg (by omega)]]; decide)⟩, rfl⟩ (by rw [e1]; omega))
    · -- slot 19: ((xs.getD ((i).toNat) opt0).1) == k is False
      replace h6 : ((xs.getD ((i).toNat) opt0).1) ≠ k := by simpa using h6
      refine X.run 15 [0, 1, 5] [] (.ex .normal) [.loop J1, .blk 0, .seq (cA B111 [1, 1])] ⟨24, [(0, .v (.slice A xs.length c)), (1, .v (.int .i64 k)), (5, .v (.int .i64 (IntKind.i64.wrap (i + 1))))], []⟩ (by kernel_rfl) ?_
      -- again (TF)
      have e1 : IntKind.i64.wrap (i + 1) = i + 1 := wi64 (by omega) (by omega)
      have e0 : (i + 1).toNat = i.toNat + 1 := by omega
      exact X.again (hJ1 _ _ _ _ ⟨IntKind.i64.wrap (i + 1), rfl, rfl, rfl, ⟨by omega, by omega, by rw [e1, e0]; exact fun hz_ => take_all (p := fun o : Opt => o.1 ≠ k) (d := opt0) (hi2 hz_) (by omega) (by assumption)⟩, rfl⟩ (by rw [e1]; omega))
  · -- slot 9: decide (i < ((xs.length : Nat) : Int)) is False
    replace h2 : ¬ (i < ((xs.length : Nat) : Int)) := of_decide_eq_false h2
    refine X.run 12 [4] [] (.ex .ret) [] ⟨24, [(4, .v (.bool false))], []⟩ (by kernel_rfl) ?_
    refine doneG (.inl rfl) [.bool false] [] (by kernel_rfl) rfl rfl (Ge.refl _ _) ?_
    -- end 10 (F)
    refine ⟨congrArg Value.bool ?_, rfl⟩
    rw [List.take_of_length_le (by omega)] at hi2
    by_cases hz_ : 0 < szk k
    · exact (had_no (hi2 hz_)).symm
    · exact (had_off hz_).symm

set_option maxHeartbeats 1000000 in
theorem Find_ok (A : Option Addr) (c : Nat) (xs : List Opt) (k : Int) (G : Mem) (hr : rowAt optD G A xs) (hle : xs.length ≤ c) (hmx : c ≤ maxLen) : CallsG Try.prog 51 [.slice A xs.length c, .int .i64 k] G (fun G' v rows => ∃ B c', v = .tuple #[.agg #[.int .i64 (findO xs k).1.1, .slice B (findO xs k).1.2.1.length c', .string (findO xs k).1.2.2], .bool (findO xs k).2] ∧ (findO xs k).1.2.1.length ≤ c' ∧ c' ≤ maxLen ∧ rowAt (D.int .u32) G' B (findO xs k).1.2.1 ∧ rows = []) := by
  simp only [maxLen] at hmx
  refine CallsG.enter Try.func51 rfl rfl ?_
  intro w
  refine X.run 11 [0, 4, 5, 7, 8] [3, 4] (.ops (aA B51 [1, 0]) (oA B51 [1, 0] 2 :: lA B51 [1, 0] 3)) [.seq (cA B51 [1, 1])] ⟨17, [(0, .v (.slice A xs.length c)), (4, .own 4 0), (5, .v (.bool false)), (7, .v (.slice A xs.length c)), (8, .fn 115 [(3, 0)])], [(3, ⟨3, [.v (.int .i64 k)]⟩), (4, ⟨65, [.v (.int .i64 0), .v (.slice none 0 0), .v (.string ByteArray.empty)]⟩)]⟩ (by kernel_rfl) ?_
  refine X.inline (f := 114) (l := [.v (.slice A xs.length c), .fn 115 [(3, 0)]]) (fn := Try.f114) (c := B114) (by kernel_rfl) (by kernel_rfl) Try.func114 (by kernel_rfl) ?_
  intro Q1 M1 hM1 hQ1 fin1
  refine X.run 14 [0, 1, 4, 7, 8] [1003, 1004] (.code (cA B114 [1, 0, 1, 0])) [.blk 0, .seq (cA B114 [1, 1])] ⟨19, [(0, .v (.slice A xs.length c)), (1, .fn 115 [(1003, 0)]), (4, .v (.int .i64 0)), (7, .v (.int .i64 ((xs.length : Nat) : Int))), (8, .v (.int .i64 0))], [(1003, ⟨3, [.v (.int .i64 k)]⟩), (1004, ⟨65, [.v (.int .i64 0), .v (.slice none 0 0), .v (.string ByteArray.empty)]⟩)]⟩ (by kernel_rfl) ?_
  refine X.run 0 [0, 1, 7, 8] [1003, 1004] (.code (cA B114 [1, 0, 1, 0])) [.blk 0, .seq (cA B114 [1, 1])] ⟨19, [(0, .v (.slice A xs.length c)), (1, .fn 115 [(1003, 0)]), (7, .v (.int .i64 ((xs.length : Nat) : Int))), (8, .v (.int .i64 0))], [(1003, ⟨3, [.v (.int .i64 k)]⟩), (1004, ⟨65, [.v (.int .i64 0), .v (.slice none 0 0), .v (.string ByteArray.empty)]⟩)]⟩ (by kernel_rfl) ?_
  refine X.loopJ (fun m s R' G' => ∃ (i : Int), s = ⟨19, [(0, .v (.slice A xs.length c)), (1, .fn 115 [(1003, 0)]), (7, .v (.int .i64 ((xs.length : Nat) : Int))), (8, .v (.int .i64 i))], [(1003, ⟨3, [.v (.int .i64 k)]⟩), (1004, ⟨65, [.v (.int .i64 0), .v (.slice none 0 0), .v (.string ByteArray.empty)]⟩)]⟩ ∧ R' = [] ∧ G = G' ∧ (0 ≤ i ∧ i ≤ (xs.length : Int) ∧ ∀ o ∈ xs.take i.toNat, o.1 ≠ k) ∧ m = ((xs.length : Int) - i).toNat) _ ⟨0, rfl, rfl, rfl, ⟨by omega, by omega, by simp⟩, rfl⟩ ?_
  rintro m2 s2 R2 G2 ⟨i, rfl, rfl, rfl, hF2, rfl⟩ J2 hJ2
  obtain ⟨hi0, hi1, hi2⟩ := hF2
  refine X.run 6 [0, 1, 7, 8, 9] [1003, 1004] (.code (cA B114 [1, 0, 1, 0, 0, 1, 0])) [.seq (cA B114 [1, 0, 1, 0, 0, 1, 1]), .loop J2, .blk 0, .seq (cA B114 [1, 1])] ⟨19, [(0, .v (.slice A xs.length c)), (1, .fn 115 [(1003, 0)]), (7, .v (.int .i64 ((xs.length : Nat) : Int))), (8, .v (.int .i64 i)), (9, .v (.bool (decide (i < ((xs.length : Nat) : Int)))))], [(1003, ⟨3, [.v (.int .i64 k)]⟩), (1004, ⟨65, [.v (.int .i64 0), .v (.slice none 0 0), .v (.string ByteArray.empty)]⟩)]⟩ (by kernel_rfl) ?_
  refine X.split 9 rfl (fun h3 => ?_) (fun h3 => ?_)
  · -- slot 9: decide (i < ((xs.length : Nat) : Int)) is True
    replace h3 : i < ((xs.length : Nat) : Int) := of_decide_eq_true h3
    refine X.run 16 [0, 1, 5, 7, 8, 11, 12, 13] [1003, 1004] (.ops (aA B114 [1, 0, 1, 0, 0, 1, 1, 0, 0, 1, 0]) (oA B114 [1, 0, 1, 0, 0, 1, 1, 0, 0, 1, 0] 3 :: lA B114 [1, 0, 1, 0, 0, 1, 1, 0, 0, 1, 0] 4)) [.seq (cA B114 [1, 0, 1, 0, 0, 1, 1, 0, 0, 1, 1]), .blk 1, .seq (cA B114 [1, 0, 1, 0, 0, 1, 1, 1]), .loop J2, .blk 0, .seq (cA B114 [1, 1])] ⟨19, [(0, .v (.slice A xs.length c)), (1, .fn 115 [(1003, 0)]), (5, .v (.int .i64 i)), (7, .v (.int .i64 ((xs.length : Nat) : Int))), (8, .v (.int .i64 i)), (11, .fn 115 [(1003, 0)]), (12, .v (.slice A xs.length c)), (13, .v (.int .i64 i))], [(1003, ⟨3, [.v (.int .i64 k)]⟩), (1004, ⟨65, [.v (.int .i64 0), .v (.slice none 0 0), .v (.string ByteArray.empty)]⟩)]⟩ (by kernel_rfl) ?_
    have b4 : (0 : Int) ≤ i := by omega
    have b5 : i < ((xs.length : Nat) : Int) := by omega
    refine X.index (t := 59) (e := 65) (sz := 3) (A := A) (n := xs.length) (c := c) (ki := .i64) (i := i) (x := .tmp 12) (ix := .tmp 13) (by kernel_rfl) (by kernel_rfl) (by kernel_rfl) (by kernel_rfl) (by kernel_rfl) (by kernel_rfl) b4 b5 (fun _ _ => rowAt.so hr (by omega)) ?_
    obtain ⟨A6, c6, at6, kr6, le6, mx6, hr6⟩ := At.opt [] hr ((i).toNat) (by omega)
    simp only [IntKind.lo, IntKind.hi, maxLen] at kr6 mx6
    refine X.run 0 [0, 1, 5, 7, 8, 11, 14] [1003, 1004] (.ops (aA B114 [1, 0, 1, 0, 0, 1, 1, 0, 0, 1, 0]) (oA B114 [1, 0, 1, 0, 0, 1, 1, 0, 0, 1, 0] 4 :: lA B114 [1, 0, 1, 0, 0, 1, 1, 0, 0, 1, 0] 5)) [.seq (cA B114 [1, 0, 1, 0, 0, 1, 1, 0, 0, 1, 1]), .blk 1, .seq (cA B114 [1, 0, 1, 0, 0, 1, 1, 1]), .loop J2, .blk 0, .seq (cA B114 [1, 1])] ⟨19, [(0, .v (.slice A xs.length c)), (1, .fn 115 [(1003, 0)]), (5, .v (.int .i64 i)), (7, .v (.int .i64 ((xs.length : Nat) : Int))), (8, .v (.int .i64 i)), (11, .fn 115 [(1003, 0)]), (14, .v (elt A ((i).toNat * 3)))], [(1003, ⟨3, [.v (.int .i64 k)]⟩), (1004, ⟨65, [.v (.int .i64 0), .v (.slice none 0 0), .v (.string ByteArray.empty)]⟩)]⟩ (by kernel_rfl) ?_
    refine X.load (t := 65) (A := A) (j := (i).toNat * 3) (x := .tmp 14) (z := .agg #[.int .i64 ((xs.getD ((i).toNat) opt0).1), .slice A6 ((xs.getD ((i).toNat) opt0).2.1.length) c6, .string ((xs.getD ((i).toNat) opt0).2.2)]) [.int .i64 ((xs.getD ((i).toNat) opt0).1), .slice A6 ((xs.getD ((i).toNat) opt0).2.1.length) c6, .string ((xs.getD ((i).toNat) opt0).2.2)] (by kernel_rfl) (by kernel_rfl) at6 (by kernel_rfl) (by kernel_rfl) ?_
    refine X.run 0 [0, 1, 5, 7, 8, 11, 15] [1003, 1004] (.ops (aA B114 [1, 0, 1, 0, 0, 1, 1, 0, 0, 1, 0]) (oA B114 [1, 0, 1, 0, 0, 1, 1, 0, 0, 1, 0] 5 :: lA B114 [1, 0, 1, 0, 0, 1, 1, 0, 0, 1, 0] 6)) [.seq (cA B114 [1, 0, 1, 0, 0, 1, 1, 0, 0, 1, 1]), .blk 1, .seq (cA B114 [1, 0, 1, 0, 0, 1, 1, 1]), .loop J2, .blk 0, .seq (cA B114 [1, 1])] ⟨19, [(0, .v (.slice A xs.length c)), (1, .fn 115 [(1003, 0)]), (5, .v (.int .i64 i)), (7, .v (.int .i64 ((xs.length : Nat) : Int))), (8, .v (.int .i64 i)), (11, .fn 115 [(1003, 0)]), (15, .v (.agg #[.int .i64 ((xs.getD ((i).toNat) opt0).1), .slice A6 ((xs.getD ((i).toNat) opt0).2.1.length) c6, .string ((xs.getD ((i).toNat) opt0).2.2)]))], [(1003, ⟨3, [.v (.int .i64 k)]⟩), (1004, ⟨65, [.v (.int .i64 0), .v (.slice none 0 0), .v (.string ByteArray.empty)]⟩)]⟩ (by kernel_rfl) ?_
    refine X.inline (f := 115) (l := [.v (.agg #[.int .i64 ((xs.getD ((i).toNat) opt0).1), .slice A6 ((xs.getD ((i).toNat) opt0).2.1.length) c6, .string ((xs.getD ((i).toNat) opt0).2.2)]), .own 1003 0]) (fn := Try.f115) (c := B115) (by kernel_rfl) (by kernel_rfl) Try.func115 (by kernel_rfl) ?_
    intro Q7 M7 hM7 hQ7 fin7
    refine X.run 16 [3] [2003, 2004] (.ex .ret) [] ⟨8, [(3, .v (.bool (((xs.getD ((i).toNat) opt0).1) == k)))], [(2003, ⟨3, [.v (.int .i64 k)]⟩), (2004, ⟨65, [.v (.int .i64 0), .v (.slice none 0 0), .v (.string ByteArray.empty)]⟩)]⟩ (by kernel_rfl) ?_
    refine fin7 _ _ _ _ [.bool (((xs.getD ((i).toNat) opt0).1) == k)] [(1003, ⟨3, [.v (.int .i64 k)]⟩), (1004, ⟨65, [.v (.int .i64 0), .v (.slice none 0 0), .v (.string ByteArray.empty)]⟩)] (.inl rfl) (by kernel_rfl) (by kernel_rfl) ?_
    refine X.run 2 [0, 1, 5, 7, 8, 16] [1003, 1004] (.code (cA B114 [1, 0, 1, 0, 0, 1, 1, 0, 0, 1, 1])) [.blk 1, .seq (cA B114 [1, 0, 1, 0, 0, 1, 1, 1]), .loop J2, .blk 0, .seq (cA B114 [1, 1])] ⟨19, [(0, .v (.slice A xs.length c)), (1, .fn 115 [(1003, 0)]), (5, .v (.int .i64 i)), (7, .v (.int .i64 ((xs.length : Nat) : Int))), (8, .v (.int .i64 i)), (16, .v (.bool (((xs.getD ((i).toNat) opt0).1) == k)))], [(1003, ⟨3, [.v (.int .i64 k)]⟩), (1004, ⟨65, [.v (.int .i64 0), .v (.slice none 0 0), .v (.string ByteArray.empty)]⟩)]⟩ (by kernel_rfl) ?_
    refine X.split 16 rfl (fun h8 => ?_) (fun h8 => ?_)
    · -- slot 16: ((xs.getD ((i).toNat) opt0).1) == k is True
      replace h8 : ((xs.getD ((i).toNat) opt0).1) = k := by simpa using h8
      refine X.run 13 [4] [1003, 1004] (.ex .ret) [] ⟨19, [(4, .v (.int .i64 i))], [(1003, ⟨3, [.v (.int .i64 k)]⟩), (1004, ⟨65, [.v (.int .i64 0), .v (.slice none 0 0), .v (.string ByteArray.empty)]⟩)]⟩ (by kernel_rfl) ?_
      refine fin1 _ _ _ _ [.int .i64 i] [(3, ⟨3, [.v (.int .i64 k)]⟩), (4, ⟨65, [.v (.int .i64 0), .v (.slice none 0 0), .v (.string ByteArray.empty)]⟩)] (.inl rfl) (by kernel_rfl) (by kernel_rfl) ?_
      refine X.run 10 [0, 4, 5, 6, 11] [4] (.code (cA B51 [1, 1, 0, 1])) [.seq (cA B51 [1, 1, 1])] ⟨17, [(0, .v (.slice A xs.length c)), (4, .own 4 0), (5, .v (.bool false)), (6, .v (.int .i64 i)), (11, .v (.bool (decide (i < 0))))], [(4, ⟨65, [.v (.int .i64 0), .v (.slice none 0 0), .v (.string ByteArray.empty)]⟩)]⟩ (by kernel_rfl) ?_
      refine X.isFalse 11 rfl (decide_eq_false (by omega)) ?_
      refine X.run 7 [4, 5, 13, 14] [4] (.ops (aA B51 [1, 1, 1, 0]) (oA B51 [1, 1, 1, 0] 2 :: lA B51 [1, 1, 1, 0] 3)) [.seq (cA B51 [1, 1, 1, 1])] ⟨17, [(4, .own 4 0), (5, .v (.bool false)), (13, .v (.slice A xs.length c)), (14, .v (.int .i64 i))], [(4, ⟨65, [.v (.int .i64 0), .v (.slice none 0 0), .v (.string ByteArray.empty)]⟩)]⟩ (by kernel_rfl) ?_
      have b9 : (0 : Int) ≤ i := by omega
      have b10 : i < ((xs.length : Nat) : Int) := by omega
      refine X.index (t := 59) (e := 65) (sz := 3) (A := A) (n := xs.length) (c := c) (ki := .i64) (i := i) (x := .tmp 13) (ix := .tmp 14) (by kernel_rfl) (by kernel_rfl) (by kernel_rfl) (by kernel_rfl) (by kernel_rfl) (by kernel_rfl) b9 b10 (fun _ _ => rowAt.so hr (by omega)) ?_
      obtain ⟨A11, c11, at11, kr11, le11, mx11, hr11⟩ := At.opt [] hr ((i).toNat) (by omega)
      simp only [IntKind.lo, IntKind.hi, maxLen] at kr11 mx11
      refine X.run 0 [4, 5, 15] [4] (.ops (aA B51 [1, 1, 1, 0]) (oA B51 [1, 1, 1, 0] 3 :: lA B51 [1, 1, 1, 0] 4)) [.seq (cA B51 [1, 1, 1, 1])] ⟨17, [(4, .own 4 0), (5, .v (.bool false)), (15, .v (elt A ((i).toNat * 3)))], [(4, ⟨65, [.v (.int .i64 0), .v (.slice none 0 0), .v (.string ByteArray.empty)]⟩)]⟩ (by kernel_rfl) ?_
      refine X.load (t := 65) (A := A) (j := (i).toNat * 3) (x := .tmp 15) (z := .agg #[.int .i64 ((xs.getD ((i).toNat) opt0).1), .slice A11 ((xs.getD ((i).toNat) opt0).2.1.length) c11, .string ((xs.getD ((i).toNat) opt0).2.2)]) [.int .i64 ((xs.getD ((i).toNat) opt0).1), .slice A11 ((xs.getD ((i).toNat) opt0).2.1.length) c11, .string ((xs.getD ((i).toNat) opt0).2.2)] (by kernel_rfl) (by kernel_rfl) at11 (by kernel_rfl) (by kernel_rfl) ?_
      refine X.run 5 [4, 5] [4] (.ex .ret) [] ⟨17, [(4, .own 4 0), (5, .v (.bool true))], [(4, ⟨65, [.v (.int .i64 ((xs.getD ((i).toNat) opt0).1)), .v (.slice A11 ((xs.getD ((i).toNat) opt0).2.1.length) c11), .v (.string ((xs.getD ((i).toNat) opt0).2.2))]⟩)]⟩ (by kernel_rfl) ?_
      refine doneG (.inl rfl) [.agg #[.int .i64 ((xs.getD ((i).toNat) opt0).1), .slice A11 ((xs.getD ((i).toNat) opt0).2.1.length) c11, .string ((xs.getD ((i).toNat) opt0).2.2)], .bool true] [] (by kernel_rfl) rfl rfl (Ge.refl _ _) ?_
      -- end 3 (TT)
      rw [findO_some (i := i.toNat) (by omega) hi2 (by assumption)]
      exact ⟨_, _, rfl, le11, mx11, hr11, rfl⟩
    · -- slot 16: ((xs.getD ((i).toNat) opt0).1) == k is False
      replace h8 : ((xs.getD ((i).toNat) opt0).1) ≠ k := by simpa using h8
      refine X.run 8 [0, 1, 7, 8] [1003, 1004] (.ex .normal) [.loop J2, .blk 0, .seq (cA B114 [1, 1])] ⟨19, [(0, .v (.slice A xs.length c)), (1, .fn 115 [(1003, 0)]), (7, .v (.int .i64 ((xs.length : Nat) : Int))), (8, .v (.int .i64 (IntKind.i64.wrap (i + 1))))], [(1003, ⟨3, [.v (.int .i64 k)]⟩), (1004, ⟨65, [.v (.int .i64 0), .v (.slice none 0 0), .v (.string ByteArray.empty)]⟩)]⟩ (by kernel_rfl) ?_
      -- again (TF)
      have e1 : IntKind.i64.wrap (i + 1) = i + 1 := wi64 (by omega) (by omega)
      have e0 : (i + 1).toNat = i.toNat + 1 := by omega
      exact X.again (hJ2 _ _ _ _ ⟨IntKind.i64.wrap (i + 1), rfl, rfl, rfl, ⟨by omega, by omega, by rw [e1, e0]; exact take_all (p := fun o : Opt => o.1 ≠ k) (d := opt0) hi2 (by omega) (by assumption)⟩, rfl⟩ (by rw [e1]; omega))
  · -- slot 9: decide (i < ((xs.length : Nat) : Int)) is False
    replace h3 : ¬ (i < ((xs.length : Nat) : Int)) := of_decide_eq_false h3
    refine X.run 12 [4] [1003, 1004] (.ex .ret) [] ⟨19, [(4, .v (.int .i64 (-1)))], [(1003, ⟨3, [.v (.int .i64 k)]⟩), (1004, ⟨65, [.v (.int .i64 0), .v (.slice none 0 0), .v (.string ByteArray.empty)]⟩)]⟩ (by kernel_rfl) ?_
    refine fin1 _ _ _ _ [.int .i64 (-1)] [(3, ⟨3, [.v (.int .i64 k)]⟩), (4, ⟨65, [.v (.int .i64 0), .v (.slice none 0 0), .v (.string ByteArray.empty)]⟩)] (.inl rfl) (by kernel_rfl) (by kernel_rfl) ?_
    refine X.run 20 [4, 5] [4] (.ex .ret) [] ⟨17, [(4, .own 4 0), (5, .v (.bool false))], [(4, ⟨65, [.v (.int .i64 0), .v (.slice none 0 0), .v (.string ByteArray.empty)]⟩)]⟩ (by kernel_rfl) ?_
    refine doneG (.inl rfl) [.agg #[.int .i64 0, .slice none 0 0, .string ByteArray.empty], .bool false] [] (by kernel_rfl) rfl rfl (Ge.refl _ _) ?_
    -- end 5 (F)
    rw [List.take_of_length_le (by omega)] at hi2
    rw [findO_none hi2]
    exact ⟨none, 0, rfl, by simp [opt0], by simp [maxLen], rowAt.nil _ _ _, rfl⟩

set_option maxHeartbeats 1000000 in
theorem had_ok (A : Option Addr) (c : Nat) (xs : List Opt) (k : Int) (G : Mem) (hr : rowAt optD G A xs) (hle : xs.length ≤ c) (hmx : c ≤ maxLen) : CallsG Try.prog 107 [.slice A xs.length c, .int .i64 k] G (fun _ v rows => v = .bool (hadB xs k) ∧ rows = []) := by
  refine CallsG.enter Try.func107 rfl rfl ?_
  intro w
  refine X.run 9 [1, 4, 8, 9] [] (.ops (aA B107 [1, 0]) (oA B107 [1, 0] 2 :: lA B107 [1, 0] 3)) [.seq (cA B107 [1, 1])] ⟨18, [(1, .v (.int .i64 k)), (4, .v (.bool false)), (8, .v (.slice A xs.length c)), (9, .v (.int .i64 k))], []⟩ (by kernel_rfl) ?_
  refine X.callG (f := 51) (l := [.v (.slice A xs.length c), .v (.int .i64 k)]) [.slice A xs.length c, .int .i64 k] 0 (by kernel_rfl) (by kernel_rfl) (by kernel_rfl) (Find_ok A c xs k _ hr hle hmx) ?_
  rintro v1 G1 rows1 hG1 ⟨A1, c1, rfl, hle1, hmx1, hr1, rfl⟩
  replace hr := hr.mono hG1.le
  refine X.run 12 [1, 4, 14] [] (.ops (aA B107 [1, 1, 0]) (oA B107 [1, 1, 0] 2 :: lA B107 [1, 1, 0] 3)) [.seq (cA B107 [1, 1, 1])] ⟨18, [(1, .v (.int .i64 k)), (4, .v (.bool false)), (14, .v (.bool ((findO xs k).2)))], []⟩ (by kernel_rfl) ?_
  refine X.split 14 rfl (fun h2 => ?_) (fun h2 => ?_)
  · -- slot 14: (findO xs k).2 is True
    refine X.run 1 [4, 14, 15] [] (.ops (aA B107 [1, 1, 0]) (oA B107 [1, 1, 0] 3 :: lA B107 [1, 1, 0] 4)) [.seq (cA B107 [1, 1, 1])] ⟨18, [(4, .v (.bool false)), (14, .v (.bool true)), (15, .v (.int .i64 k))], []⟩ (by kernel_rfl) ?_
    refine X.inline (f := 155) (l := [.v (.int .i64 k)]) (fn := Try.f155) (c := B155) (by kernel_rfl) (by kernel_rfl) Try.func155 (by kernel_rfl) ?_
    intro Q3 M3 hM3 hQ3 fin3
    refine X.run 8 [2, 7] [] (.ops (aA B155 [1, 0]) (oA B155 [1, 0] 1 :: lA B155 [1, 0] 2)) [.seq (cA B155 [1, 1])] ⟨14, [(2, .v (.bool false)), (7, .v (.int .i64 k))], []⟩ (by kernel_rfl) ?_
    refine X.inline (f := 108) (l := [.v (.int .i64 k)]) (fn := Try.f108) (c := B108) (by kernel_rfl) (by kernel_rfl) Try.func108 (by kernel_rfl) ?_
    intro Q4 M4 hM4 hQ4 fin4
    refine X.run 20 [2, 3, 4, 5, 6] [] (.code (cA B108 [1, 0, 1, 0, 1])) [.blk 0, .seq (cA B108 [1, 1])] ⟨13, [(2, .v (.int .i64 0)), (3, .v (.int .i64 0)), (4, .v (.int .i64 0)), (5, .v (.int .i64 k)), (6, .v (.bool (k == 2)))], []⟩ (by kernel_rfl) ?_
    refine X.split 6 rfl (fun h5 => ?_) (fun h5 => ?_)
    · -- slot 6: k == 2 is True
      replace h5 : k = 2 := by simpa using h5
      refine X.run 11 [2, 3, 4] [] (.ex .ret) [] ⟨13, [(2, .v (.int .i64 2)), (3, .v (.int .i64 1)), (4, .v (.int .i64 1))], []⟩ (by kernel_rfl) ?_
      refine fin4 _ _ _ _ [.int .i64 2, .int .i64 1, .int .i64 1] [] (.inl rfl) (by kernel_rfl) (by kernel_rfl) ?_
      refine X.run 17 [2] [] (.ex .ret) [] ⟨14, [(2, .v (.bool true))], []⟩ (by kernel_rfl) ?_
      refine fin3 _ _ _ _ [.bool true] [] (.inl rfl) (by kernel_rfl) (by kernel_rfl) ?_
      refine X.run 5 [4] [] (.ex .ret) [] ⟨18, [(4, .v (.bool true))], []⟩ (by kernel_rfl) ?_
      refine doneG (.inl rfl) [.bool true] [] (by kernel_rfl) rfl rfl (hG1) ?_
      -- end 3 (TT)
      exact ⟨congrArg Value.bool (by rw [had_find, show (findO xs k).2 = true by assumption, decide_eq_true (show 0 < szk k by rw [show k = 2 by assumption]; decide)]; rfl), rfl⟩
    · -- slot 6: k == 2 is False
      replace h5 : k ≠ 2 := by simpa using h5
      refine X.run 7 [2, 3, 4, 5, 8] [] (.code (cA B108 [1, 0, 1, 0, 1, 1, 1])) [.blk 0, .seq (cA B108 [1, 1])] ⟨13, [(2, .v (.int .i64 0)), (3, .v (.int .i64 0)), (4, .v (.int .i64 0)), (5, .v (.int .i64 k)), (8, .v (.bool (k == 8)))], []⟩ (by kernel_rfl) ?_
      refine X.split 8 rfl (fun h6 => ?_) (fun h6 => ?_)
      · -- slot 8: k == 8 is True
        replace h6 : k = 8 := by simpa using h6
        refine X.run 11 [2, 3, 4] [] (.ex .ret) [] ⟨13, [(2, .v (.int .i64 4)), (3, .v (.int .i64 2)), (4, .v (.int .i64 2))], []⟩ (by kernel_rfl) ?_
        refine fin4 _ _ _ _ [.int .i64 4, .int .i64 2, .int .i64 2] [] (.inl rfl) (by kernel_rfl) (by kernel_rfl) ?_
        refine X.run 17 [2] [] (.ex .ret) [] ⟨14, [(2, .v (.bool true))], []⟩ (by kernel_rfl) ?_
        refine fin3 _ _ _ _ [.bool true] [] (.inl rfl) (by kernel_rfl) (by kernel_rfl) ?_
        refine X.run 5 [4] [] (.ex .ret) [] ⟨18, [(4, .v (.bool true))], []⟩ (by kernel_rfl) ?_
        refine doneG (.inl rfl) [.bool true] [] (by kernel_rfl) rfl rfl (hG1) ?_
        -- end 6 (TFT)
        exact ⟨congrArg Value.bool (by rw [had_find, show (findO xs k).2 = true by assumption, decide_eq_true (show 0 < szk k by rw [show k = 8 by assumption]; decide)]; rfl), rfl⟩
      · -- slot 8: k == 8 is False
        replace h6 : k ≠ 8 := by simpa using h6
        refine X.run 8 [2, 3, 4, 5, 10] [] (.code (cA B108 [1, 0, 1, 0, 1, 1, 1, 1, 0, 1])) [.seq (cA B108 [1, 0, 1, 0, 1, 1, 1, 1, 1]), .blk 0, .seq (cA B108 [1, 1])] ⟨13, [(2, .v (.int .i64 0)), (3, .v (.int .i64 0)), (4, .v (.int .i64 0)), (5, .v (.int .i64 k)), (10, .v (.bool (k == 172)))], []⟩ (by kernel_rfl) ?_
        refine X.split 10 rfl (fun h7 => ?_) (fun h7 => ?_)
        · -- slot 10: k == 172 is True
          replace h7 : k = 172 := by simpa using h7
          refine X.run 14 [2, 3, 4] [] (.ex .ret) [] ⟨13, [(2, .v (.int .i64 3)), (3, .v (.int .i64 0)), (4, .v (.int .i64 3))], []⟩ (by kernel_rfl) ?_
          refine fin4 _ _ _ _ [.int .i64 3, .int .i64 0, .int .i64 3] [] (.inl rfl) (by kernel_rfl) (by kernel_rfl) ?_
          refine X.run 17 [2] [] (.ex .ret) [] ⟨14, [(2, .v (.bool true))], []⟩ (by kernel_rfl) ?_
          refine fin3 _ _ _ _ [.bool true] [] (.inl rfl) (by kernel_rfl) (by kernel_rfl) ?_
          refine X.run 5 [4] [] (.ex .ret) [] ⟨18, [(4, .v (.bool true))], []⟩ (by kernel_rfl) ?_
          refine doneG (.inl rfl) [.bool true] [] (by kernel_rfl) rfl rfl (hG1) ?_
          -- end 9 (TFFT)
          exact ⟨congrArg Value.bool (by rw [had_find, show (findO xs k).2 = true by assumption, decide_eq_true (show 0 < szk k by rw [show k = 172 by assumption]; decide)]; rfl), rfl⟩
        · -- slot 10: k == 172 is False
          replace h7 : k ≠ 172 := by simpa using h7
          refine X.run 6 [2, 3, 4, 10] [] (.code (cA B108 [1, 0, 1, 0, 1, 1, 1, 1, 1])) [.blk 0, .seq (cA B108 [1, 1])] ⟨13, [(2, .v (.int .i64 0)), (3, .v (.int .i64 0)), (4, .v (.int .i64 0)), (10, .v (.bool (k == 174)))], []⟩ (by kernel_rfl) ?_
          refine X.split 10 rfl (fun h8 => ?_) (fun h8 => ?_)
          · -- slot 10: k == 174 is True
            replace h8 : k = 174 := by simpa using h8
            refine X.run 11 [2, 3, 4] [] (.ex .ret) [] ⟨13, [(2, .v (.int .i64 3)), (3, .v (.int .i64 0)), (4, .v (.int .i64 3))], []⟩ (by kernel_rfl) ?_
            refine fin4 _ _ _ _ [.int .i64 3, .int .i64 0, .int .i64 3] [] (.inl rfl) (by kernel_rfl) (by kernel_rfl) ?_
            refine X.run 17 [2] [] (.ex .ret) [] ⟨14, [(2, .v (.bool true))], []⟩ (by kernel_rfl) ?_
            refine fin3 _ _ _ _ [.bool true] [] (.inl rfl) (by kernel_rfl) (by kernel_rfl) ?_
            refine X.run 5 [4] [] (.ex .ret) [] ⟨18, [(4, .v (.bool true))], []⟩ (by kernel_rfl) ?_
            refine doneG (.inl rfl) [.bool true] [] (by kernel_rfl) rfl rfl (hG1) ?_
            -- end 12 (TFFFT)
            exact ⟨congrArg Value.bool (by rw [had_find, show (findO xs k).2 = true by assumption, decide_eq_true (show 0 < szk k by rw [show k = 174 by assumption]; decide)]; rfl), rfl⟩
          · -- slot 10: k == 174 is False
            replace h8 : k ≠ 174 := by simpa using h8
            refine X.run 12 [2, 3, 4] [] (.ex .ret) [] ⟨13, [(2, .v (.int .i64 0)), (3, .v (.int .i64 0)), (4, .v (.int .i64 0))], []⟩ (by kernel_rfl) ?_
            refine fin4 _ _ _ _ [.int .i64 0, .int .i64 0, .int .i64 0] [] (.inl rfl) (by kernel_rfl) (by kernel_rfl) ?_
            refine X.run 17 [2] [] (.ex .ret) [] ⟨14, [(2, .v (.bool false))], []⟩ (by kernel_rfl) ?_
            refine fin3 _ _ _ _ [.bool false] [] (.inl rfl) (by kernel_rfl) (by kernel_rfl) ?_
            refine X.run 5 [4] [] (.ex .ret) [] ⟨18, [(4, .v (.bool false))], []⟩ (by kernel_rfl) ?_
            refine doneG (.inl rfl) [.bool false] [] (by kernel_rfl) rfl rfl (hG1) ?_
            -- end 15 (TFFFF)
            exact ⟨congrArg Value.bool (had_off (by rw [show szk k = 0 by unfold szk; rw [if_neg (by omega), if_neg (by omega), if_neg (by omega)]]; decide)).symm, rfl⟩
  · -- slot 14: (findO xs k).2 is False
    refine X.run 7 [4] [] (.ex .ret) [] ⟨18, [(4, .v (.bool false))], []⟩ (by kernel_rfl) ?_
    refine doneG (.inl rfl) [.bool false] [] (by kernel_rfl) rfl rfl (hG1) ?_
    -- end 16 (F)
    exact ⟨congrArg Value.bool (by rw [had_find, show (findO xs k).2 = false by assumption]; rfl), rfl⟩
end Go.Proofs.YtjgpdbkkpomhjaaX
