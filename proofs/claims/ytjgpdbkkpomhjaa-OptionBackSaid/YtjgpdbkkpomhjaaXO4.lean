/- option.fine -/
import Derived.Test.YtjgpdbkkpomhjaaProg
import Derived.KernelRfl
import Derived.Test.YtjgpdbkkpomhjaaXOW
namespace Go.Proofs.YtjgpdbkkpomhjaaX
open Go.RowKit
set_option linter.unusedVariables false
set_option linter.unusedSimpArgs false
set_option maxRecDepth 100000
set_option maxHeartbeats 4000000 in
theorem fine_ok (k1 : Int) (A : Option Addr) (ca : Nat) (xs : List Int) (s1 : ByteArray) (G : Mem) (hx : rowAt (D.int .u32) G A xs) (hxc : xs.length ≤ ca) (hxm : ca ≤ maxLen) : CallsG Try.prog 106 [.agg #[.int .i64 k1, .slice A xs.length ca, .string s1]] G (fun _ v rows => v = .bool (fineB (k1, xs, s1)) ∧ rows = []) := by
  simp only [maxLen] at hxm
  refine CallsG.enter Try.func106 rfl rfl ?_
  intro w
  refine X.run 13 [1, 2, 10] [1] (.ops (aA B106 [1, 0, 0]) (oA B106 [1, 0, 0] 4 :: lA B106 [1, 0, 0] 5)) [.seq (cA B106 [1, 0, 1]), .seq (cA B106 [1, 1])] ⟨53, [(1, .own 1 0), (2, .v (.bool false)), (10, .v (.bool (decide (k1 < 2))))], [(1, ⟨65, [.v (.int .i64 k1), .v (.slice A xs.length ca), .v (.string s1)]⟩)]⟩ (by kernel_rfl) ?_
  refine X.split 10 rfl (fun h1 => ?_) (fun h1 => ?_)
  · -- slot 10: decide (k1 < 2) is True
    replace h1 : k1 < 2 := of_decide_eq_true h1
    refine X.run 14 [2] [] (.ex .ret) [] ⟨53, [(2, .v (.bool false))], []⟩ (by kernel_rfl) ?_
    refine doneG (.inl rfl) [.bool false] [] (by kernel_rfl) rfl rfl (Ge.refl _ _) ?_
    -- end 1 (T)
    exact ⟨congrArg Value.bool (fine_out (by omega)).symm, rfl⟩
  · -- slot 10: decide (k1 < 2) is False
    replace h1 : ¬ (k1 < 2) := of_decide_eq_false h1
    refine X.run 6 [1, 2, 14] [1] (.code (cA B106 [1, 0, 1])) [.seq (cA B106 [1, 1])] ⟨53, [(1, .own 1 0), (2, .v (.bool false)), (14, .v (.bool (decide (k1 > 255))))], [(1, ⟨65, [.v (.int .i64 k1), .v (.slice A xs.length ca), .v (.string s1)]⟩)]⟩ (by kernel_rfl) ?_
    refine X.split 14 rfl (fun h2 => ?_) (fun h2 => ?_)
    · -- slot 14: decide (k1 > 255) is True
      replace h2 : k1 > 255 := of_decide_eq_true h2
      refine X.run 8 [2] [] (.ex .ret) [] ⟨53, [(2, .v (.bool false))], []⟩ (by kernel_rfl) ?_
      refine doneG (.inl rfl) [.bool false] [] (by kernel_rfl) rfl rfl (Ge.refl _ _) ?_
      -- end 2 (FT)
      exact ⟨congrArg Value.bool (fine_out (by omega)).symm, rfl⟩
    · -- slot 14: decide (k1 > 255) is False
      replace h2 : ¬ (k1 > 255) := of_decide_eq_false h2
      refine X.run 7 [1, 2, 17] [1] (.ops (aA B106 [1, 1, 0]) (oA B106 [1, 1, 0] 2 :: lA B106 [1, 1, 0] 3)) [.seq (cA B106 [1, 1, 1])] ⟨53, [(1, .own 1 0), (2, .v (.bool false)), (17, .v (.int .i64 k1))], [(1, ⟨65, [.v (.int .i64 k1), .v (.slice A xs.length ca), .v (.string s1)]⟩)]⟩ (by kernel_rfl) ?_
      refine X.inline (f := 108) (l := [.v (.int .i64 k1)]) (fn := Try.f108) (c := B108) (by kernel_rfl) (by kernel_rfl) Try.func108 (by kernel_rfl) ?_
      intro Q3 M3 hM3 hQ3 fin3
      refine X.run 20 [2, 3, 4, 5, 6] [1001] (.code (cA B108 [1, 0, 1, 0, 1])) [.blk 0, .seq (cA B108 [1, 1])] ⟨13, [(2, .v (.int .i64 0)), (3, .v (.int .i64 0)), (4, .v (.int .i64 0)), (5, .v (.int .i64 k1)), (6, .v (.bool (k1 == 2)))], [(1001, ⟨65, [.v (.int .i64 k1), .v (.slice A xs.length ca), .v (.string s1)]⟩)]⟩ (by kernel_rfl) ?_
      refine X.split 6 rfl (fun h4 => ?_) (fun h4 => ?_)
      · -- slot 6: k1 == 2 is True
        replace h4 : k1 = 2 := by simpa using h4
        refine X.run 11 [2, 3, 4] [1001] (.ex .ret) [] ⟨13, [(2, .v (.int .i64 2)), (3, .v (.int .i64 1)), (4, .v (.int .i64 1))], [(1001, ⟨65, [.v (.int .i64 k1), .v (.slice A xs.length ca), .v (.string s1)]⟩)]⟩ (by kernel_rfl) ?_
        refine fin3 _ _ _ _ [.int .i64 2, .int .i64 1, .int .i64 1] [(1, ⟨65, [.v (.int .i64 k1), .v (.slice A xs.length ca), .v (.string s1)]⟩)] (.inl rfl) (by kernel_rfl) (by kernel_rfl) ?_
        refine X.run 32 [1, 2, 4, 5, 6, 32] [1, 3] (.ops (aA B106 [1, 1, 1, 1, 1, 0]) (oA B106 [1, 1, 1, 1, 1, 0] 4 :: lA B106 [1, 1, 1, 1, 1, 0] 5)) [.seq (cA B106 [1, 1, 1, 1, 1, 1])] ⟨53, [(1, .own 1 0), (2, .v (.bool false)), (4, .v (.int .i64 1)), (5, .v (.int .i64 1)), (6, .fn 153 [(3, 0)]), (32, .v (.bool (s1.toList == (⟨#[]⟩ : ByteArray).toList)))], [(1, ⟨65, [.v (.int .i64 k1), .v (.slice A xs.length ca), .v (.string s1)]⟩), (3, ⟨3, [.v (.int .i64 2)]⟩)]⟩ (by kernel_rfl) ?_
        refine X.split 32 rfl (fun h5 => ?_) (fun h5 => ?_)
        · -- slot 32: (s1.toList == (⟨#[]⟩ : ByteArray).toList) is True
          replace h5 : s1 = (⟨#[]⟩ : ByteArray) := strT h5
          refine X.run 7 [1, 2, 5, 6, 39] [1, 3] (.ops (aA B106 [1, 1, 1, 1, 1, 0]) (oA B106 [1, 1, 1, 1, 1, 0] 11 :: lA B106 [1, 1, 1, 1, 1, 0] 12)) [.seq (cA B106 [1, 1, 1, 1, 1, 1])] ⟨53, [(1, .own 1 0), (2, .v (.bool false)), (5, .v (.int .i64 1)), (6, .fn 153 [(3, 0)]), (39, .v (.bool (decide (((xs.length : Nat) : Int) ≥ 1))))], [(1, ⟨65, [.v (.int .i64 k1), .v (.slice A xs.length ca), .v (.string s1)]⟩), (3, ⟨3, [.v (.int .i64 2)]⟩)]⟩ (by kernel_rfl) ?_
          refine X.split 39 rfl (fun h6 => ?_) (fun h6 => ?_)
          · -- slot 39: decide (((xs.length : Nat) : Int) ≥ 1) is True
            replace h6 : ((xs.length : Nat) : Int) ≥ 1 := of_decide_eq_true h6
            refine X.run 7 [1, 2, 6, 46] [1, 3] (.ops (aA B106 [1, 1, 1, 1, 1, 0]) (oA B106 [1, 1, 1, 1, 1, 0] 18 :: lA B106 [1, 1, 1, 1, 1, 0] 19)) [.seq (cA B106 [1, 1, 1, 1, 1, 1])] ⟨53, [(1, .own 1 0), (2, .v (.bool false)), (6, .fn 153 [(3, 0)]), (46, .v (.bool (decide (((xs.length : Nat) : Int) ≤ 1))))], [(1, ⟨65, [.v (.int .i64 k1), .v (.slice A xs.length ca), .v (.string s1)]⟩), (3, ⟨3, [.v (.int .i64 2)]⟩)]⟩ (by kernel_rfl) ?_
            refine X.split 46 rfl (fun h7 => ?_) (fun h7 => ?_)
            · -- slot 46: decide (((xs.length : Nat) : Int) ≤ 1) is True
              replace h7 : ((xs.length : Nat) : Int) ≤ 1 := of_decide_eq_true h7
              refine X.run 3 [2, 46, 48, 49] [3] (.ops (aA B106 [1, 1, 1, 1, 1, 0]) (oA B106 [1, 1, 1, 1, 1, 0] 21 :: lA B106 [1, 1, 1, 1, 1, 0] 22)) [.seq (cA B106 [1, 1, 1, 1, 1, 1])] ⟨53, [(2, .v (.bool false)), (46, .v (.bool true)), (48, .v (.slice A xs.length ca)), (49, .fn 153 [(3, 0)])], [(3, ⟨3, [.v (.int .i64 2)]⟩)]⟩ (by kernel_rfl) ?_
              refine X.inline (f := 154) (l := [.v (.slice A xs.length ca), .fn 153 [(3, 0)]]) (fn := Try.f154) (c := B154) (by kernel_rfl) (by kernel_rfl) Try.func154 (by kernel_rfl) ?_
              intro Q8 M8 hM8 hQ8 fin8
              refine X.run 9 [4, 5, 6] [1003] (.ops (aA B154 [1, 0]) (oA B154 [1, 0] 2 :: lA B154 [1, 0] 3)) [.seq (cA B154 [1, 1])] ⟨9, [(4, .v (.bool false)), (5, .v (.slice A xs.length ca)), (6, .fn 153 [(1003, 0)])], [(1003, ⟨3, [.v (.int .i64 2)]⟩)]⟩ (by kernel_rfl) ?_
              refine X.inline (f := 171) (l := [.v (.slice A xs.length ca), .fn 153 [(1003, 0)]]) (fn := Try.f171) (c := B171) (by kernel_rfl) (by kernel_rfl) Try.func171 (by kernel_rfl) ?_
              intro Q9 M9 hM9 hQ9 fin9
              refine X.run 14 [0, 1, 4, 7, 8] [2003] (.code (cA B171 [1, 0, 1, 0])) [.blk 0, .seq (cA B171 [1, 1])] ⟨19, [(0, .v (.slice A xs.length ca)), (1, .fn 153 [(2003, 0)]), (4, .v (.int .i64 0)), (7, .v (.int .i64 ((xs.length : Nat) : Int))), (8, .v (.int .i64 0))], [(2003, ⟨3, [.v (.int .i64 2)]⟩)]⟩ (by kernel_rfl) ?_
              refine X.run 0 [0, 1, 7, 8] [2003] (.code (cA B171 [1, 0, 1, 0])) [.blk 0, .seq (cA B171 [1, 1])] ⟨19, [(0, .v (.slice A xs.length ca)), (1, .fn 153 [(2003, 0)]), (7, .v (.int .i64 ((xs.length : Nat) : Int))), (8, .v (.int .i64 0))], [(2003, ⟨3, [.v (.int .i64 2)]⟩)]⟩ (by kernel_rfl) ?_
              refine X.loopJ (fun m s R' G' => ∃ (i : Int), s = ⟨19, [(0, .v (.slice A xs.length ca)), (1, .fn 153 [(2003, 0)]), (7, .v (.int .i64 ((xs.length : Nat) : Int))), (8, .v (.int .i64 i))], [(2003, ⟨3, [.v (.int .i64 2)]⟩)]⟩ ∧ R' = [] ∧ G = G' ∧ (0 ≤ i ∧ i ≤ (xs.length : Int) ∧ ∀ n ∈ xs.take i.toNat, n < 65536) ∧ m = ((xs.length : Int) - i).toNat) _ ⟨0, rfl, rfl, rfl, ⟨by omega, by omega, by simp⟩, rfl⟩ ?_
              rintro m10 s10 R10 G10 ⟨i, rfl, rfl, rfl, hF10, rfl⟩ J10 hJ10
              obtain ⟨hi0, hi1, hi2⟩ := hF10
              refine X.run 6 [0, 1, 7, 8, 9] [2003] (.code (cA B171 [1, 0, 1, 0, 0, 1, 0])) [.seq (cA B171 [1, 0, 1, 0, 0, 1, 1]), .loop J10, .blk 0, .seq (cA B171 [1, 1])] ⟨19, [(0, .v (.slice A xs.length ca)), (1, .fn 153 [(2003, 0)]), (7, .v (.int .i64 ((xs.length : Nat) : Int))), (8, .v (.int .i64 i)), (9, .v (.bool (decide (i < ((xs.length : Nat) : Int)))))], [(2003, ⟨3, [.v (.int .i64 2)]⟩)]⟩ (by kernel_rfl) ?_
              refine X.split 9 rfl (fun h11 => ?_) (fun h11 => ?_)
              · -- slot 9: decide (i < ((xs.length : Nat) : Int)) is True
                replace h11 : i < ((xs.length : Nat) : Int) := of_decide_eq_true h11
                refine X.run 16 [0, 1, 5, 7, 8, 11, 12, 13] [2003] (.ops (aA B171 [1, 0, 1, 0, 0, 1, 1, 0, 0, 1, 0]) (oA B171 [1, 0, 1, 0, 0, 1, 1, 0, 0, 1, 0] 3 :: lA B171 [1, 0, 1, 0, 0, 1, 1, 0, 0, 1, 0] 4)) [.seq (cA B171 [1, 0, 1, 0, 0, 1, 1, 0, 0, 1, 1]), .blk 1, .seq (cA B171 [1, 0, 1, 0, 0, 1, 1, 1]), .loop J10, .blk 0, .seq (cA B171 [1, 1])] ⟨19, [(0, .v (.slice A xs.length ca)), (1, .fn 153 [(2003, 0)]), (5, .v (.int .i64 i)), (7, .v (.int .i64 ((xs.length : Nat) : Int))), (8, .v (.int .i64 i)), (11, .fn 153 [(2003, 0)]), (12, .v (.slice A xs.length ca)), (13, .v (.int .i64 i))], [(2003, ⟨3, [.v (.int .i64 2)]⟩)]⟩ (by kernel_rfl) ?_
                have b12 : (0 : Int) ≤ i := by omega
                have b13 : i < ((xs.length : Nat) : Int) := by omega
                refine X.index (t := 63) (e := 29) (sz := 1) (A := A) (n := xs.length) (c := ca) (ki := .i64) (i := i) (x := .tmp 12) (ix := .tmp 13) (by kernel_rfl) (by kernel_rfl) (by kernel_rfl) (by kernel_rfl) (by kernel_rfl) (by kernel_rfl) b12 b13 (fun _ _ => rowAt.so hx (by omega)) ?_
                obtain ⟨at14, lo14, hi14⟩ := At.int [] hx ((i).toNat) (by omega)
                simp only [IntKind.lo, IntKind.hi] at lo14 hi14
                refine X.run 0 [0, 1, 5, 7, 8, 11, 14] [2003] (.ops (aA B171 [1, 0, 1, 0, 0, 1, 1, 0, 0, 1, 0]) (oA B171 [1, 0, 1, 0, 0, 1, 1, 0, 0, 1, 0] 4 :: lA B171 [1, 0, 1, 0, 0, 1, 1, 0, 0, 1, 0] 5)) [.seq (cA B171 [1, 0, 1, 0, 0, 1, 1, 0, 0, 1, 1]), .blk 1, .seq (cA B171 [1, 0, 1, 0, 0, 1, 1, 1]), .loop J10, .blk 0, .seq (cA B171 [1, 1])] ⟨19, [(0, .v (.slice A xs.length ca)), (1, .fn 153 [(2003, 0)]), (5, .v (.int .i64 i)), (7, .v (.int .i64 ((xs.length : Nat) : Int))), (8, .v (.int .i64 i)), (11, .fn 153 [(2003, 0)]), (14, .v (elt A ((i).toNat * 1)))], [(2003, ⟨3, [.v (.int .i64 2)]⟩)]⟩ (by kernel_rfl) ?_
                refine X.load (t := 29) (A := A) (j := (i).toNat * 1) (x := .tmp 14) (z := .int .u32 (xs.getD ((i).toNat) 0)) [.int .u32 (xs.getD ((i).toNat) 0)] (by kernel_rfl) (by kernel_rfl) at14 (by kernel_rfl) (by kernel_rfl) ?_
                refine X.run 0 [0, 1, 5, 7, 8, 11, 15] [2003] (.ops (aA B171 [1, 0, 1, 0, 0, 1, 1, 0, 0, 1, 0]) (oA B171 [1, 0, 1, 0, 0, 1, 1, 0, 0, 1, 0] 5 :: lA B171 [1, 0, 1, 0, 0, 1, 1, 0, 0, 1, 0] 6)) [.seq (cA B171 [1, 0, 1, 0, 0, 1, 1, 0, 0, 1, 1]), .blk 1, .seq (cA B171 [1, 0, 1, 0, 0, 1, 1, 1]), .loop J10, .blk 0, .seq (cA B171 [1, 1])] ⟨19, [(0, .v (.slice A xs.length ca)), (1, .fn 153 [(2003, 0)]), (5, .v (.int .i64 i)), (7, .v (.int .i64 ((xs.length : Nat) : Int))), (8, .v (.int .i64 i)), (11, .fn 153 [(2003, 0)]), (15, .v (.int .u32 (xs.getD ((i).toNat) 0)))], [(2003, ⟨3, [.v (.int .i64 2)]⟩)]⟩ (by kernel_rfl) ?_
                refine X.inline (f := 153) (l := [.v (.int .u32 (xs.getD ((i).toNat) 0)), .own 2003 0]) (fn := Try.f153) (c := B153) (by kernel_rfl) (by kernel_rfl) Try.func153 (by kernel_rfl) ?_
                intro Q15 M15 hM15 hQ15 fin15
                refine X.run 9 [1, 3, 5] [3003] (.ops (aA B153 [1, 0]) (oA B153 [1, 0] 2 :: lA B153 [1, 0] 3)) [.seq (cA B153 [1, 1])] ⟨10, [(1, .own 3003 0), (3, .v (.bool false)), (5, .v (.int .u64 (IntKind.u64.wrap (xs.getD ((i).toNat) 0))))], [(3003, ⟨3, [.v (.int .i64 2)]⟩)]⟩ (by kernel_rfl) ?_
                refine X.known 5 (y := .v (.int .u64 (xs.getD ((i).toNat) 0))) rfl (congrArg (fun z_ => AV.v (.int .u64 z_)) (wu64 (by omega) (by omega))) ?_
                refine X.run 3 [3, 8] [3003] (.ops (aA B153 [1, 0]) (oA B153 [1, 0] 5 :: lA B153 [1, 0] 6)) [.seq (cA B153 [1, 1])] ⟨10, [(3, .v (.bool false)), (8, .v (.int .u64 (bshr .u64 (xs.getD ((i).toNat) 0) 16)))], [(3003, ⟨3, [.v (.int .i64 2)]⟩)]⟩ (by kernel_rfl) ?_
                refine X.known 8 (y := .v (.int .u64 ((xs.getD ((i).toNat) 0) / 65536))) rfl (congrArg (fun z_ => AV.v (.int .u64 z_)) (by rw [shr_nn (by omega), show ((2 : Int) ^ min 16 IntKind.u64.bits) = 65536 by decide])) ?_
                refine X.run 5 [3] [3003] (.ex .ret) [] ⟨10, [(3, .v (.bool (decide ((xs.getD ((i).toNat) 0) / 65536 > 0))))], [(3003, ⟨3, [.v (.int .i64 2)]⟩)]⟩ (by kernel_rfl) ?_
                refine fin15 _ _ _ _ [.bool (decide ((xs.getD ((i).toNat) 0) / 65536 > 0))] [(2003, ⟨3, [.v (.int .i64 2)]⟩)] (.inl rfl) (by kernel_rfl) (by kernel_rfl) ?_
                refine X.run 2 [0, 1, 5, 7, 8, 16] [2003] (.code (cA B171 [1, 0, 1, 0, 0, 1, 1, 0, 0, 1, 1])) [.blk 1, .seq (cA B171 [1, 0, 1, 0, 0, 1, 1, 1]), .loop J10, .blk 0, .seq (cA B171 [1, 1])] ⟨19, [(0, .v (.slice A xs.length ca)), (1, .fn 153 [(2003, 0)]), (5, .v (.int .i64 i)), (7, .v (.int .i64 ((xs.length : Nat) : Int))), (8, .v (.int .i64 i)), (16, .v (.bool (decide ((xs.getD ((i).toNat) 0) / 65536 > 0))))], [(2003, ⟨3, [.v (.int .i64 2)]⟩)]⟩ (by kernel_rfl) ?_
                refine X.split 16 rfl (fun h16 => ?_) (fun h16 => ?_)
                · -- slot 16: decide ((xs.getD ((i).toNat) 0) / 65536 > 0) is True
                  replace h16 : (xs.getD ((i).toNat) 0) / 65536 > 0 := of_decide_eq_true h16
                  refine X.run 13 [4] [2003] (.ex .ret) [] ⟨19, [(4, .v (.int .i64 i))], [(2003, ⟨3, [.v (.int .i64 2)]⟩)]⟩ (by kernel_rfl) ?_
                  refine fin9 _ _ _ _ [.int .i64 i] [(1003, ⟨3, [.v (.int .i64 2)]⟩)] (.inl rfl) (by kernel_rfl) (by kernel_rfl) ?_
                  refine X.run 5 [4] [1003] (.ex .ret) [] ⟨9, [(4, .v (.bool (decide (i ≥ 0))))], [(1003, ⟨3, [.v (.int .i64 2)]⟩)]⟩ (by kernel_rfl) ?_
                  refine fin8 _ _ _ _ [.bool (decide (i ≥ 0))] [(3, ⟨3, [.v (.int .i64 2)]⟩)] (.inl rfl) (by kernel_rfl) (by kernel_rfl) ?_
                  refine X.run 6 [2] [] (.ex .ret) [] ⟨53, [(2, .v (.bool (!(decide (i ≥ 0)))))], []⟩ (by kernel_rfl) ?_
                  refine doneG (.inl rfl) [.bool (!(decide (i ≥ 0)))] [] (by kernel_rfl) rfl rfl (Ge.refl _ _) ?_
                  -- end 7 (FFTTTTTT)
                  refine ⟨congrArg Value.bool ?_, rfl⟩
                  rw [decide_eq_true (show i ≥ 0 by omega)]
                  exact (fine_big (show 2 ≤ k1 ∧ k1 ≤ 255 from ⟨by omega, by omega⟩) (show szk k1 ≠ 0 by rw [show k1 = 2 by assumption]; decide) (show (256 : Int) ^ (szk k1).toNat = 65536 by rw [show k1 = 2 by assumption]; rfl) (getD_mem (i := i.toNat) (d := 0) (by omega)) (by omega)).symm
                · -- slot 16: decide ((xs.getD ((i).toNat) 0) / 65536 > 0) is False
                  replace h16 : ¬ ((xs.getD ((i).toNat) 0) / 65536 > 0) := of_decide_eq_false h16
                  refine X.run 8 [0, 1, 7, 8] [2003] (.ex .normal) [.loop J10, .blk 0, .seq (cA B171 [1, 1])] ⟨19, [(0, .v (.slice A xs.length ca)), (1, .fn 153 [(2003, 0)]), (7, .v (.int .i64 ((xs.length : Nat) : Int))), (8, .v (.int .i64 (IntKind.i64.wrap (i + 1))))], [(2003, ⟨3, [.v (.int .i64 2)]⟩)]⟩ (by kernel_rfl) ?_
                  -- again (FFTTTTTF)
                  have e1 : IntKind.i64.wrap (i + 1) = i + 1 := wi64 (by omega) (by omega)
                  have e0 : (i + 1).toNat = i.toNat + 1 := by omega
                  exact X.again (hJ10 _ _ _ _ ⟨IntKind.i64.wrap (i + 1), rfl, rfl, rfl, ⟨by omega, by omega, by rw [e1, e0]; exact take_all (d := 0) hi2 (by omega) (by omega)⟩, rfl⟩ (by rw [e1]; omega))
              · -- slot 9: decide (i < ((xs.length : Nat) : Int)) is False
                replace h11 : ¬ (i < ((xs.length : Nat) : Int)) := of_decide_eq_false h11
                refine X.run 12 [4] [2003] (.ex .ret) [] ⟨19, [(4, .v (.int .i64 (-1)))], [(2003, ⟨3, [.v (.int .i64 2)]⟩)]⟩ (by kernel_rfl) ?_
                refine fin9 _ _ _ _ [.int .i64 (-1)] [(1003, ⟨3, [.v (.int .i64 2)]⟩)] (.inl rfl) (by kernel_rfl) (by kernel_rfl) ?_
                refine X.run 5 [4] [1003] (.ex .ret) [] ⟨9, [(4, .v (.bool false))], [(1003, ⟨3, [.v (.int .i64 2)]⟩)]⟩ (by kernel_rfl) ?_
                refine fin8 _ _ _ _ [.bool false] [(3, ⟨3, [.v (.int .i64 2)]⟩)] (.inl rfl) (by kernel_rfl) (by kernel_rfl) ?_
                refine X.run 6 [2] [] (.ex .ret) [] ⟨53, [(2, .v (.bool true))], []⟩ (by kernel_rfl) ?_
                refine doneG (.inl rfl) [.bool true] [] (by kernel_rfl) rfl rfl (Ge.refl _ _) ?_
                -- end 10 (FFTTTTF)
                refine ⟨congrArg Value.bool ?_, rfl⟩
                rw [List.take_of_length_le (by omega)] at hi2
                exact (fine_yes (show 2 ≤ k1 ∧ k1 ≤ 255 from ⟨by omega, by omega⟩) (show szk k1 ≠ 0 by rw [show k1 = 2 by assumption]; decide) (show (256 : Int) ^ (szk k1).toNat = 65536 by rw [show k1 = 2 by assumption]; rfl) (by assumption) (show lk2 k1 ≤ (xs.length : Int) ∧ (xs.length : Int) ≤ mk2 k1 by rw [show k1 = 2 by assumption, show lk2 2 = 1 from rfl, show mk2 2 = 1 from rfl]; omega) hi2).symm
            · -- slot 46: decide (((xs.length : Nat) : Int) ≤ 1) is False
              replace h7 : ¬ (((xs.length : Nat) : Int) ≤ 1) := of_decide_eq_false h7
              refine X.run 10 [2] [] (.ex .ret) [] ⟨53, [(2, .v (.bool false))], []⟩ (by kernel_rfl) ?_
              refine doneG (.inl rfl) [.bool false] [] (by kernel_rfl) rfl rfl (Ge.refl _ _) ?_
              -- end 11 (FFTTTF)
              refine ⟨congrArg Value.bool ?_, rfl⟩
              first | exact (fine_raw (show 2 ≤ k1 ∧ k1 ≤ 255 from ⟨by omega, by omega⟩) (show szk k1 ≠ 0 by rw [show k1 = 2 by assumption]; decide) (by assumption)).symm | exact (fine_few (show 2 ≤ k1 ∧ k1 ≤ 255 from ⟨by omega, by omega⟩) (show szk k1 ≠ 0 by rw [show k1 = 2 by assumption]; decide) (show ¬ (lk2 k1 ≤ (xs.length : Int) ∧ (xs.length : Int) ≤ mk2 k1) by rw [show k1 = 2 by assumption, show lk2 2 = 1 from rfl, show mk2 2 = 1 from rfl]; omega)).symm
          · -- slot 39: decide (((xs.length : Nat) : Int) ≥ 1) is False
            replace h6 : ¬ (((xs.length : Nat) : Int) ≥ 1) := of_decide_eq_false h6
            refine X.run 17 [2] [] (.ex .ret) [] ⟨53, [(2, .v (.bool false))], []⟩ (by kernel_rfl) ?_
            refine doneG (.inl rfl) [.bool false] [] (by kernel_rfl) rfl rfl (Ge.refl _ _) ?_
            -- end 12 (FFTTF)
            refine ⟨congrArg Value.bool ?_, rfl⟩
            first | exact (fine_raw (show 2 ≤ k1 ∧ k1 ≤ 255 from ⟨by omega, by omega⟩) (show szk k1 ≠ 0 by rw [show k1 = 2 by assumption]; decide) (by assumption)).symm | exact (fine_few (show 2 ≤ k1 ∧ k1 ≤ 255 from ⟨by omega, by omega⟩) (show szk k1 ≠ 0 by rw [show k1 = 2 by assumption]; decide) (show ¬ (lk2 k1 ≤ (xs.length : Int) ∧ (xs.length : Int) ≤ mk2 k1) by rw [show k1 = 2 by assumption, show lk2 2 = 1 from rfl, show mk2 2 = 1 from rfl]; omega)).symm
        · -- slot 32: (s1.toList == (⟨#[]⟩ : ByteArray).toList) is False
          replace h5 : s1 ≠ (⟨#[]⟩ : ByteArray) := strF h5
          refine X.run 24 [2] [] (.ex .ret) [] ⟨53, [(2, .v (.bool false))], []⟩ (by kernel_rfl) ?_
          refine doneG (.inl rfl) [.bool false] [] (by kernel_rfl) rfl rfl (Ge.refl _ _) ?_
          -- end 13 (FFTF)
          refine ⟨congrArg Value.bool ?_, rfl⟩
          first | exact (fine_raw (show 2 ≤ k1 ∧ k1 ≤ 255 from ⟨by omega, by omega⟩) (show szk k1 ≠ 0 by rw [show k1 = 2 by assumption]; decide) (by assumption)).symm | exact (fine_few (show 2 ≤ k1 ∧ k1 ≤ 255 from ⟨by omega, by omega⟩) (show szk k1 ≠ 0 by rw [show k1 = 2 by assumption]; decide) (show ¬ (lk2 k1 ≤ (xs.length : Int) ∧ (xs.length : Int) ≤ mk2 k1) by rw [show k1 = 2 by assumption, show lk2 2 = 1 from rfl, show mk2 2 = 1 from rfl]; omega)).symm
      · -- slot 6: k1 == 2 is False
        replace h4 : k1 ≠ 2 := by simpa using h4
        refine X.run 7 [2, 3, 4, 5, 8] [1001] (.code (cA B108 [1, 0, 1, 0, 1, 1, 1])) [.blk 0, .seq (cA B108 [1, 1])] ⟨13, [(2, .v (.int .i64 0)), (3, .v (.int .i64 0)), (4, .v (.int .i64 0)), (5, .v (.int .i64 k1)), (8, .v (.bool (k1 == 8)))], [(1001, ⟨65, [.v (.int .i64 k1), .v (.slice A xs.length ca), .v (.string s1)]⟩)]⟩ (by kernel_rfl) ?_
        refine X.split 8 rfl (fun h17 => ?_) (fun h17 => ?_)
        · -- slot 8: k1 == 8 is True
          replace h17 : k1 = 8 := by simpa using h17
          refine X.run 11 [2, 3, 4] [1001] (.ex .ret) [] ⟨13, [(2, .v (.int .i64 4)), (3, .v (.int .i64 2)), (4, .v (.int .i64 2))], [(1001, ⟨65, [.v (.int .i64 k1), .v (.slice A xs.length ca), .v (.string s1)]⟩)]⟩ (by kernel_rfl) ?_
          refine fin3 _ _ _ _ [.int .i64 4, .int .i64 2, .int .i64 2] [(1, ⟨65, [.v (.int .i64 k1), .v (.slice A xs.length ca), .v (.string s1)]⟩)] (.inl rfl) (by kernel_rfl) (by kernel_rfl) ?_
          refine X.run 32 [1, 2, 4, 5, 6, 32] [1, 3] (.ops (aA B106 [1, 1, 1, 1, 1, 0]) (oA B106 [1, 1, 1, 1, 1, 0] 4 :: lA B106 [1, 1, 1, 1, 1, 0] 5)) [.seq (cA B106 [1, 1, 1, 1, 1, 1])] ⟨53, [(1, .own 1 0), (2, .v (.bool false)), (4, .v (.int .i64 2)), (5, .v (.int .i64 2)), (6, .fn 153 [(3, 0)]), (32, .v (.bool (s1.toList == (⟨#[]⟩ : ByteArray).toList)))], [(1, ⟨65, [.v (.int .i64 k1), .v (.slice A xs.length ca), .v (.string s1)]⟩), (3, ⟨3, [.v (.int .i64 4)]⟩)]⟩ (by kernel_rfl) ?_
          refine X.split 32 rfl (fun h18 => ?_) (fun h18 => ?_)
          · -- slot 32: (s1.toList == (⟨#[]⟩ : ByteArray).toList) is True
            replace h18 : s1 = (⟨#[]⟩ : ByteArray) := strT h18
            refine X.run 7 [1, 2, 5, 6, 39] [1, 3] (.ops (aA B106 [1, 1, 1, 1, 1, 0]) (oA B106 [1, 1, 1, 1, 1, 0] 11 :: lA B106 [1, 1, 1, 1, 1, 0] 12)) [.seq (cA B106 [1, 1, 1, 1, 1, 1])] ⟨53, [(1, .own 1 0), (2, .v (.bool false)), (5, .v (.int .i64 2)), (6, .fn 153 [(3, 0)]), (39, .v (.bool (decide (((xs.length : Nat) : Int) ≥ 2))))], [(1, ⟨65, [.v (.int .i64 k1), .v (.slice A xs.length ca), .v (.string s1)]⟩), (3, ⟨3, [.v (.int .i64 4)]⟩)]⟩ (by kernel_rfl) ?_
            refine X.split 39 rfl (fun h19 => ?_) (fun h19 => ?_)
            · -- slot 39: decide (((xs.length : Nat) : Int) ≥ 2) is True
              replace h19 : ((xs.length : Nat) : Int) ≥ 2 := of_decide_eq_true h19
              refine X.run 7 [1, 2, 6, 46] [1, 3] (.ops (aA B106 [1, 1, 1, 1, 1, 0]) (oA B106 [1, 1, 1, 1, 1, 0] 18 :: lA B106 [1, 1, 1, 1, 1, 0] 19)) [.seq (cA B106 [1, 1, 1, 1, 1, 1])] ⟨53, [(1, .own 1 0), (2, .v (.bool false)), (6, .fn 153 [(3, 0)]), (46, .v (.bool (decide (((xs.length : Nat) : Int) ≤ 2))))], [(1, ⟨65, [.v (.int .i64 k1), .v (.slice A xs.length ca), .v (.string s1)]⟩), (3, ⟨3, [.v (.int .i64 4)]⟩)]⟩ (by kernel_rfl) ?_
              refine X.split 46 rfl (fun h20 => ?_) (fun h20 => ?_)
              · -- slot 46: decide (((xs.length : Nat) : Int) ≤ 2) is True
                replace h20 : ((xs.length : Nat) : Int) ≤ 2 := of_decide_eq_true h20
                refine X.run 3 [2, 46, 48, 49] [3] (.ops (aA B106 [1, 1, 1, 1, 1, 0]) (oA B106 [1, 1, 1, 1, 1, 0] 21 :: lA B106 [1, 1, 1, 1, 1, 0] 22)) [.seq (cA B106 [1, 1, 1, 1, 1, 1])] ⟨53, [(2, .v (.bool false)), (46, .v (.bool true)), (48, .v (.slice A xs.length ca)), (49, .fn 153 [(3, 0)])], [(3, ⟨3, [.v (.int .i64 4)]⟩)]⟩ (by kernel_rfl) ?_
                refine X.inline (f := 154) (l := [.v (.slice A xs.length ca), .fn 153 [(3, 0)]]) (fn := Try.f154) (c := B154) (by kernel_rfl) (by kernel_rfl) Try.func154 (by kernel_rfl) ?_
                intro Q21 M21 hM21 hQ21 fin21
                refine X.run 9 [4, 5, 6] [1003] (.ops (aA B154 [1, 0]) (oA B154 [1, 0] 2 :: lA B154 [1, 0] 3)) [.seq (cA B154 [1, 1])] ⟨9, [(4, .v (.bool false)), (5, .v (.slice A xs.length ca)), (6, .fn 153 [(1003, 0)])], [(1003, ⟨3, [.v (.int .i64 4)]⟩)]⟩ (by kernel_rfl) ?_
                refine X.inline (f := 171) (l := [.v (.slice A xs.length ca), .fn 153 [(1003, 0)]]) (fn := Try.f171) (c := B171) (by kernel_rfl) (by kernel_rfl) Try.func171 (by kernel_rfl) ?_
                intro Q22 M22 hM22 hQ22 fin22
                refine X.run 14 [0, 1, 4, 7, 8] [2003] (.code (cA B171 [1, 0, 1, 0])) [.blk 0, .seq (cA B171 [1, 1])] ⟨19, [(0, .v (.slice A xs.length ca)), (1, .fn 153 [(2003, 0)]), (4, .v (.int .i64 0)), (7, .v (.int .i64 ((xs.length : Nat) : Int))), (8, .v (.int .i64 0))], [(2003, ⟨3, [.v (.int .i64 4)]⟩)]⟩ (by kernel_rfl) ?_
                refine X.run 0 [0, 1, 7, 8] [2003] (.code (cA B171 [1, 0, 1, 0])) [.blk 0, .seq (cA B171 [1, 1])] ⟨19, [(0, .v (.slice A xs.length ca)), (1, .fn 153 [(2003, 0)]), (7, .v (.int .i64 ((xs.length : Nat) : Int))), (8, .v (.int .i64 0))], [(2003, ⟨3, [.v (.int .i64 4)]⟩)]⟩ (by kernel_rfl) ?_
                refine X.loopJ (fun m s R' G' => ∃ (i : Int), s = ⟨19, [(0, .v (.slice A xs.length ca)), (1, .fn 153 [(2003, 0)]), (7, .v (.int .i64 ((xs.length : Nat) : Int))), (8, .v (.int .i64 i))], [(2003, ⟨3, [.v (.int .i64 4)]⟩)]⟩ ∧ R' = [] ∧ G = G' ∧ (0 ≤ i ∧ i ≤ (xs.length : Int) ∧ ∀ n ∈ xs.take i.toNat, n < 4294967296) ∧ m = ((xs.length : Int) - i).toNat) _ ⟨0, rfl, rfl, rfl, ⟨by omega, by omega, by simp⟩, rfl⟩ ?_
                rintro m23 s23 R23 G23 ⟨i, rfl, rfl, rfl, hF23, rfl⟩ J23 hJ23
                obtain ⟨hi0, hi1, hi2⟩ := hF23
                refine X.run 6 [0, 1, 7, 8, 9] [2003] (.code (cA B171 [1, 0, 1, 0, 0, 1, 0])) [.seq (cA B171 [1, 0, 1, 0, 0, 1, 1]), .loop J23, .blk 0, .seq (cA B171 [1, 1])] ⟨19, [(0, .v (.slice A xs.length ca)), (1, .fn 153 [(2003, 0)]), (7, .v (.int .i64 ((xs.length : Nat) : Int))), (8, .v (.int .i64 i)), (9, .v (.bool (decide (i < ((xs.length : Nat) : Int)))))], [(2003, ⟨3, [.v (.int .i64 4)]⟩)]⟩ (by kernel_rfl) ?_
                refine X.split 9 rfl (fun h24 => ?_) (fun h24 => ?_)
                · -- slot 9: decide (i < ((xs.length : Nat) : Int)) is True
                  replace h24 : i < ((xs.length : Nat) : Int) := of_decide_eq_true h24
                  refine X.run 16 [0, 1, 5, 7, 8, 11, 12, 13] [2003] (.ops (aA B171 [1, 0, 1, 0, 0, 1, 1, 0, 0, 1, 0]) (oA B171 [1, 0, 1, 0, 0, 1, 1, 0, 0, 1, 0] 3 :: lA B171 [1, 0, 1, 0, 0, 1, 1, 0, 0, 1, 0] 4)) [.seq (cA B171 [1, 0, 1, 0, 0, 1, 1, 0, 0, 1, 1]), .blk 1, .seq (cA B171 [1, 0, 1, 0, 0, 1, 1, 1]), .loop J23, .blk 0, .seq (cA B171 [1, 1])] ⟨19, [(0, .v (.slice A xs.length ca)), (1, .fn 153 [(2003, 0)]), (5, .v (.int .i64 i)), (7, .v (.int .i64 ((xs.length : Nat) : Int))), (8, .v (.int .i64 i)), (11, .fn 153 [(2003, 0)]), (12, .v (.slice A xs.length ca)), (13, .v (.int .i64 i))], [(2003, ⟨3, [.v (.int .i64 4)]⟩)]⟩ (by kernel_rfl) ?_
                  have b25 : (0 : Int) ≤ i := by omega
                  have b26 : i < ((xs.length : Nat) : Int) := by omega
                  refine X.index (t := 63) (e := 29) (sz := 1) (A := A) (n := xs.length) (c := ca) (ki := .i64) (i := i) (x := .tmp 12) (ix := .tmp 13) (by kernel_rfl) (by kernel_rfl) (by kernel_rfl) (by kernel_rfl) (by kernel_rfl) (by kernel_rfl) b25 b26 (fun _ _ => rowAt.so hx (by omega)) ?_
                  obtain ⟨at27, lo27, hi27⟩ := At.int [] hx ((i).toNat) (by omega)
                  simp only [IntKind.lo, IntKind.hi] at lo27 hi27
                  refine X.run 0 [0, 1, 5, 7, 8, 11, 14] [2003] (.ops (aA B171 [1, 0, 1, 0, 0, 1, 1, 0, 0, 1, 0]) (oA B171 [1, 0, 1, 0, 0, 1, 1, 0, 0, 1, 0] 4 :: lA B171 [1, 0, 1, 0, 0, 1, 1, 0, 0, 1, 0] 5)) [.seq (cA B171 [1, 0, 1, 0, 0, 1, 1, 0, 0, 1, 1]), .blk 1, .seq (cA B171 [1, 0, 1, 0, 0, 1, 1, 1]), .loop J23, .blk 0, .seq (cA B171 [1, 1])] ⟨19, [(0, .v (.slice A xs.length ca)), (1, .fn 153 [(2003, 0)]), (5, .v (.int .i64 i)), (7, .v (.int .i64 ((xs.length : Nat) : Int))), (8, .v (.int .i64 i)), (11, .fn 153 [(2003, 0)]), (14, .v (elt A ((i).toNat * 1)))], [(2003, ⟨3, [.v (.int .i64 4)]⟩)]⟩ (by kernel_rfl) ?_
                  refine X.load (t := 29) (A := A) (j := (i).toNat * 1) (x := .tmp 14) (z := .int .u32 (xs.getD ((i).toNat) 0)) [.int .u32 (xs.getD ((i).toNat) 0)] (by kernel_rfl) (by kernel_rfl) at27 (by kernel_rfl) (by kernel_rfl) ?_
                  refine X.run 0 [0, 1, 5, 7, 8, 11, 15] [2003] (.ops (aA B171 [1, 0, 1, 0, 0, 1, 1, 0, 0, 1, 0]) (oA B171 [1, 0, 1, 0, 0, 1, 1, 0, 0, 1, 0] 5 :: lA B171 [1, 0, 1, 0, 0, 1, 1, 0, 0, 1, 0] 6)) [.seq (cA B171 [1, 0, 1, 0, 0, 1, 1, 0, 0, 1, 1]), .blk 1, .seq (cA B171 [1, 0, 1, 0, 0, 1, 1, 1]), .loop J23, .blk 0, .seq (cA B171 [1, 1])] ⟨19, [(0, .v (.slice A xs.length ca)), (1, .fn 153 [(2003, 0)]), (5, .v (.int .i64 i)), (7, .v (.int .i64 ((xs.length : Nat) : Int))), (8, .v (.int .i64 i)), (11, .fn 153 [(2003, 0)]), (15, .v (.int .u32 (xs.getD ((i).toNat) 0)))], [(2003, ⟨3, [.v (.int .i64 4)]⟩)]⟩ (by kernel_rfl) ?_
                  refine X.inline (f := 153) (l := [.v (.int .u32 (xs.getD ((i).toNat) 0)), .own 2003 0]) (fn := Try.f153) (c := B153) (by kernel_rfl) (by kernel_rfl) Try.func153 (by kernel_rfl) ?_
                  intro Q28 M28 hM28 hQ28 fin28
                  refine X.run 9 [1, 3, 5] [3003] (.ops (aA B153 [1, 0]) (oA B153 [1, 0] 2 :: lA B153 [1, 0] 3)) [.seq (cA B153 [1, 1])] ⟨10, [(1, .own 3003 0), (3, .v (.bool false)), (5, .v (.int .u64 (IntKind.u64.wrap (xs.getD ((i).toNat) 0))))], [(3003, ⟨3, [.v (.int .i64 4)]⟩)]⟩ (by kernel_rfl) ?_
                  refine X.known 5 (y := .v (.int .u64 (xs.getD ((i).toNat) 0))) rfl (congrArg (fun z_ => AV.v (.int .u64 z_)) (wu64 (by omega) (by omega))) ?_
                  refine X.run 3 [3, 8] [3003] (.ops (aA B153 [1, 0]) (oA B153 [1, 0] 5 :: lA B153 [1, 0] 6)) [.seq (cA B153 [1, 1])] ⟨10, [(3, .v (.bool false)), (8, .v (.int .u64 (bshr .u64 (xs.getD ((i).toNat) 0) 32)))], [(3003, ⟨3, [.v (.int .i64 4)]⟩)]⟩ (by kernel_rfl) ?_
                  refine X.known 8 (y := .v (.int .u64 ((xs.getD ((i).toNat) 0) / 4294967296))) rfl (congrArg (fun z_ => AV.v (.int .u64 z_)) (by rw [shr_nn (by omega), show ((2 : Int) ^ min 32 IntKind.u64.bits) = 4294967296 by decide])) ?_
                  refine X.run 5 [3] [3003] (.ex .ret) [] ⟨10, [(3, .v (.bool (decide ((xs.getD ((i).toNat) 0) / 4294967296 > 0))))], [(3003, ⟨3, [.v (.int .i64 4)]⟩)]⟩ (by kernel_rfl) ?_
                  refine fin28 _ _ _ _ [.bool (decide ((xs.getD ((i).toNat) 0) / 4294967296 > 0))] [(2003, ⟨3, [.v (.int .i64 4)]⟩)] (.inl rfl) (by kernel_rfl) (by kernel_rfl) ?_
                  refine X.run 2 [0, 1, 5, 7, 8, 16] [2003] (.code (cA B171 [1, 0, 1, 0, 0, 1, 1, 0, 0, 1, 1])) [.blk 1, .seq (cA B171 [1, 0, 1, 0, 0, 1, 1, 1]), .loop J23, .blk 0, .seq (cA B171 [1, 1])] ⟨19, [(0, .v (.slice A xs.length ca)), (1, .fn 153 [(2003, 0)]), (5, .v (.int .i64 i)), (7, .v (.int .i64 ((xs.length : Nat) : Int))), (8, .v (.int .i64 i)), (16, .v (.bool (decide ((xs.getD ((i).toNat) 0) / 4294967296 > 0))))], [(2003, ⟨3, [.v (.int .i64 4)]⟩)]⟩ (by kernel_rfl) ?_
                  refine X.split 16 rfl (fun h29 => ?_) (fun h29 => ?_)
                  · -- slot 16: decide ((xs.getD ((i).toNat) 0) / 4294967296 > 0) is True
                    replace h29 : (xs.getD ((i).toNat) 0) / 4294967296 > 0 := of_decide_eq_true h29
                    refine X.run 13 [4] [2003] (.ex .ret) [] ⟨19, [(4, .v (.int .i64 i))], [(2003, ⟨3, [.v (.int .i64 4)]⟩)]⟩ (by kernel_rfl) ?_
                    refine fin22 _ _ _ _ [.int .i64 i] [(1003, ⟨3, [.v (.int .i64 4)]⟩)] (.inl rfl) (by kernel_rfl) (by kernel_rfl) ?_
                    refine X.run 5 [4] [1003] (.ex .ret) [] ⟨9, [(4, .v (.bool (decide (i ≥ 0))))], [(1003, ⟨3, [.v (.int .i64 4)]⟩)]⟩ (by kernel_rfl) ?_
                    refine fin21 _ _ _ _ [.bool (decide (i ≥ 0))] [(3, ⟨3, [.v (.int .i64 4)]⟩)] (.inl rfl) (by kernel_rfl) (by kernel_rfl) ?_
                    refine X.run 6 [2] [] (.ex .ret) [] ⟨53, [(2, .v (.bool (!(decide (i ≥ 0)))))], []⟩ (by kernel_rfl) ?_
                    refine doneG (.inl rfl) [.bool (!(decide (i ≥ 0)))] [] (by kernel_rfl) rfl rfl (Ge.refl _ _) ?_
                    -- end 18 (FFFTTTTTT)
                    refine ⟨congrArg Value.bool ?_, rfl⟩
                    rw [decide_eq_true (show i ≥ 0 by omega)]
                    exact (fine_big (show 2 ≤ k1 ∧ k1 ≤ 255 from ⟨by omega, by omega⟩) (show szk k1 ≠ 0 by rw [show k1 = 8 by assumption]; decide) (show (256 : Int) ^ (szk k1).toNat = 4294967296 by rw [show k1 = 8 by assumption]; rfl) (getD_mem (i := i.toNat) (d := 0) (by omega)) (by omega)).symm
                  · -- slot 16: decide ((xs.getD ((i).toNat) 0) / 4294967296 > 0) is False
                    replace h29 : ¬ ((xs.getD ((i).toNat) 0) / 4294967296 > 0) := of_decide_eq_false h29
                    refine X.run 8 [0, 1, 7, 8] [2003] (.ex .normal) [.loop J23, .blk 0, .seq (cA B171 [1, 1])] ⟨19, [(0, .v (.slice A xs.length ca)), (1, .fn 153 [(2003, 0)]), (7, .v (.int .i64 ((xs.length : Nat) : Int))), (8, .v (.int .i64 (IntKind.i64.wrap (i + 1))))], [(2003, ⟨3, [.v (.int .i64 4)]⟩)]⟩ (by kernel_rfl) ?_
                    -- again (FFFTTTTTF)
                    have e1 : IntKind.i64.wrap (i + 1) = i + 1 := wi64 (by omega) (by omega)
                    have e0 : (i + 1).toNat = i.toNat + 1 := by omega
                    exact X.again (hJ23 _ _ _ _ ⟨IntKind.i64.wrap (i + 1), rfl, rfl, rfl, ⟨by omega, by omega, by rw [e1, e0]; exact take_all (d := 0) hi2 (by omega) (by omega)⟩, rfl⟩ (by rw [e1]; omega))
                · -- slot 9: decide (i < ((xs.length : Nat) : Int)) is False
                  replace h24 : ¬ (i < ((xs.length : Nat) : Int)) := of_decide_eq_false h24
                  refine X.run 12 [4] [2003] (.ex .ret) [] ⟨19, [(4, .v (.int .i64 (-1)))], [(2003, ⟨3, [.v (.int .i64 4)]⟩)]⟩ (by kernel_rfl) ?_
                  refine fin22 _ _ _ _ [.int .i64 (-1)] [(1003, ⟨3, [.v (.int .i64 4)]⟩)] (.inl rfl) (by kernel_rfl) (by kernel_rfl) ?_
                  refine X.run 5 [4] [1003] (.ex .ret) [] ⟨9, [(4, .v (.bool false))], [(1003, ⟨3, [.v (.int .i64 4)]⟩)]⟩ (by kernel_rfl) ?_
                  refine fin21 _ _ _ _ [.bool false] [(3, ⟨3, [.v (.int .i64 4)]⟩)] (.inl rfl) (by kernel_rfl) (by kernel_rfl) ?_
                  refine X.run 6 [2] [] (.ex .ret) [] ⟨53, [(2, .v (.bool true))], []⟩ (by kernel_rfl) ?_
                  refine doneG (.inl rfl) [.bool true] [] (by kernel_rfl) rfl rfl (Ge.refl _ _) ?_
                  -- end 21 (FFFTTTTF)
                  refine ⟨congrArg Value.bool ?_, rfl⟩
                  rw [List.take_of_length_le (by omega)] at hi2
                  exact (fine_yes (show 2 ≤ k1 ∧ k1 ≤ 255 from ⟨by omega, by omega⟩) (show szk k1 ≠ 0 by rw [show k1 = 8 by assumption]; decide) (show (256 : Int) ^ (szk k1).toNat = 4294967296 by rw [show k1 = 8 by assumption]; rfl) (by assumption) (show lk2 k1 ≤ (xs.length : Int) ∧ (xs.length : Int) ≤ mk2 k1 by rw [show k1 = 8 by assumption, show lk2 8 = 2 from rfl, show mk2 8 = 2 from rfl]; omega) hi2).symm
              · -- slot 46: decide (((xs.length : Nat) : Int) ≤ 2) is False
                replace h20 : ¬ (((xs.length : Nat) : Int) ≤ 2) := of_decide_eq_false h20
                refine X.run 10 [2] [] (.ex .ret) [] ⟨53, [(2, .v (.bool false))], []⟩ (by kernel_rfl) ?_
                refine doneG (.inl rfl) [.bool false] [] (by kernel_rfl) rfl rfl (Ge.refl _ _) ?_
                -- end 22 (FFFTTTF)
                refine ⟨congrArg Value.bool ?_, rfl⟩
                first | exact (fine_raw (show 2 ≤ k1 ∧ k1 ≤ 255 from ⟨by omega, by omega⟩) (show szk k1 ≠ 0 by rw [show k1 = 8 by assumption]; decide) (by assumption)).symm | exact (fine_few (show 2 ≤ k1 ∧ k1 ≤ 255 from ⟨by omega, by omega⟩) (show szk k1 ≠ 0 by rw [show k1 = 8 by assumption]; decide) (show ¬ (lk2 k1 ≤ (xs.length : Int) ∧ (xs.length : Int) ≤ mk2 k1) by rw [show k1 = 8 by assumption, show lk2 8 = 2 from rfl, show mk2 8 = 2 from rfl]; omega)).symm
            · -- slot 39: decide (((xs.length : Nat) : Int) ≥ 2) is False
              replace h19 : ¬ (((xs.length : Nat) : Int) ≥ 2) := of_decide_eq_false h19
              refine X.run 17 [2] [] (.ex .ret) [] ⟨53, [(2, .v (.bool false))], []⟩ (by kernel_rfl) ?_
              refine doneG (.inl rfl) [.bool false] [] (by kernel_rfl) rfl rfl (Ge.refl _ _) ?_
              -- end 23 (FFFTTF)
              refine ⟨congrArg Value.bool ?_, rfl⟩
              first | exact (fine_raw (show 2 ≤ k1 ∧ k1 ≤ 255 from ⟨by omega, by omega⟩) (show szk k1 ≠ 0 by rw [show k1 = 8 by assumption]; decide) (by assumption)).symm | exact (fine_few (show 2 ≤ k1 ∧ k1 ≤ 255 from ⟨by omega, by omega⟩) (show szk k1 ≠ 0 by rw [show k1 = 8 by assumption]; decide) (show ¬ (lk2 k1 ≤ (xs.length : Int) ∧ (xs.length : Int) ≤ mk2 k1) by rw [show k1 = 8 by assumption, show lk2 8 = 2 from rfl, show mk2 8 = 2 from rfl]; omega)).symm
          · -- slot 32: (s1.toList == (⟨#[]⟩ : ByteArray).toList) is False
            replace h18 : s1 ≠ (⟨#[]⟩ : ByteArray) := strF h18
            refine X.run 24 [2] [] (.ex .ret) [] ⟨53, [(2, .v (.bool false))], []⟩ (by kernel_rfl) ?_
            refine doneG (.inl rfl) [.bool false] [] (by kernel_rfl) rfl rfl (Ge.refl _ _) ?_
            -- end 24 (FFFTF)
            refine ⟨congrArg Value.bool ?_, rfl⟩
            first | exact (fine_raw (show 2 ≤ k1 ∧ k1 ≤ 255 from ⟨by omega, by omega⟩) (show szk k1 ≠ 0 by rw [show k1 = 8 by assumption]; decide) (by assumption)).symm | exact (fine_few (show 2 ≤ k1 ∧ k1 ≤ 255 from ⟨by omega, by omega⟩) (show szk k1 ≠ 0 by rw [show k1 = 8 by assumption]; decide) (show ¬ (lk2 k1 ≤ (xs.length : Int) ∧ (xs.length : Int) ≤ mk2 k1) by rw [show k1 = 8 by assumption, show lk2 8 = 2 from rfl, show mk2 8 = 2 from rfl]; omega)).symm
        · -- slot 8: k1 == 8 is False
          replace h17 : k1 ≠ 8 := by simpa using h17
          refine X.run 8 [2, 3, 4, 5, 10] [1001] (.code (cA B108 [1, 0, 1, 0, 1, 1, 1, 1, 0, 1])) [.seq (cA B108 [1, 0, 1, 0, 1, 1, 1, 1, 1]), .blk 0, .seq (cA B108 [1, 1])] ⟨13, [(2, .v (.int .i64 0)), (3, .v (.int .i64 0)), (4, .v (.int .i64 0)), (5, .v (.int .i64 k1)), (10, .v (.bool (k1 == 172)))], [(1001, ⟨65, [.v (.int .i64 k1), .v (.slice A xs.length ca), .v (.string s1)]⟩)]⟩ (by kernel_rfl) ?_
          refine X.split 10 rfl (fun h30 => ?_) (fun h30 => ?_)
          · -- slot 10: k1 == 172 is True
            replace h30 : k1 = 172 := by simpa using h30
            refine X.run 14 [2, 3, 4] [1001] (.ex .ret) [] ⟨13, [(2, .v (.int .i64 3)), (3, .v (.int .i64 0)), (4, .v (.int .i64 3))], [(1001, ⟨65, [.v (.int .i64 k1), .v (.slice A xs.length ca), .v (.string s1)]⟩)]⟩ (by kernel_rfl) ?_
            refine fin3 _ _ _ _ [.int .i64 3, .int .i64 0, .int .i64 3] [(1, ⟨65, [.v (.int .i64 k1), .v (.slice A xs.length ca), .v (.string s1)]⟩)] (.inl rfl) (by kernel_rfl) (by kernel_rfl) ?_
            refine X.run 32 [1, 2, 4, 5, 6, 32] [1, 3] (.ops (aA B106 [1, 1, 1, 1, 1, 0]) (oA B106 [1, 1, 1, 1, 1, 0] 4 :: lA B106 [1, 1, 1, 1, 1, 0] 5)) [.seq (cA B106 [1, 1, 1, 1, 1, 1])] ⟨53, [(1, .own 1 0), (2, .v (.bool false)), (4, .v (.int .i64 0)), (5, .v (.int .i64 3)), (6, .fn 153 [(3, 0)]), (32, .v (.bool (s1.toList == (⟨#[]⟩ : ByteArray).toList)))], [(1, ⟨65, [.v (.int .i64 k1), .v (.slice A xs.length ca), .v (.string s1)]⟩), (3, ⟨3, [.v (.int .i64 3)]⟩)]⟩ (by kernel_rfl) ?_
            refine X.split 32 rfl (fun h31 => ?_) (fun h31 => ?_)
            · -- slot 32: (s1.toList == (⟨#[]⟩ : ByteArray).toList) is True
              replace h31 : s1 = (⟨#[]⟩ : ByteArray) := strT h31
              refine X.run 7 [1, 2, 5, 6, 39] [1, 3] (.ops (aA B106 [1, 1, 1, 1, 1, 0]) (oA B106 [1, 1, 1, 1, 1, 0] 11 :: lA B106 [1, 1, 1, 1, 1, 0] 12)) [.seq (cA B106 [1, 1, 1, 1, 1, 1])] ⟨53, [(1, .own 1 0), (2, .v (.bool false)), (5, .v (.int .i64 3)), (6, .fn 153 [(3, 0)]), (39, .v (.bool (decide (((xs.length : Nat) : Int) ≥ 0))))], [(1, ⟨65, [.v (.int .i64 k1), .v (.slice A xs.length ca), .v (.string s1)]⟩), (3, ⟨3, [.v (.int .i64 3)]⟩)]⟩ (by kernel_rfl) ?_
              refine X.split 39 rfl (fun h32 => ?_) (fun h32 => ?_)
              · -- slot 39: decide (((xs.length : Nat) : Int) ≥ 0) is True
                replace h32 : ((xs.length : Nat) : Int) ≥ 0 := of_decide_eq_true h32
                refine X.run 7 [1, 2, 6, 46] [1, 3] (.ops (aA B106 [1, 1, 1, 1, 1, 0]) (oA B106 [1, 1, 1, 1, 1, 0] 18 :: lA B106 [1, 1, 1, 1, 1, 0] 19)) [.seq (cA B106 [1, 1, 1, 1, 1, 1])] ⟨53, [(1, .own 1 0), (2, .v (.bool false)), (6, .fn 153 [(3, 0)]), (46, .v (.bool (decide (((xs.length : Nat) : Int) ≤ 3))))], [(1, ⟨65, [.v (.int .i64 k1), .v (.slice A xs.length ca), .v (.string s1)]⟩), (3, ⟨3, [.v (.int .i64 3)]⟩)]⟩ (by kernel_rfl) ?_
                refine X.split 46 rfl (fun h33 => ?_) (fun h33 => ?_)
                · -- slot 46: decide (((xs.length : Nat) : Int) ≤ 3) is True
                  replace h33 : ((xs.length : Nat) : Int) ≤ 3 := of_decide_eq_true h33
                  refine X.run 3 [2, 46, 48, 49] [3] (.ops (aA B106 [1, 1, 1, 1, 1, 0]) (oA B106 [1, 1, 1, 1, 1, 0] 21 :: lA B106 [1, 1, 1, 1, 1, 0] 22)) [.seq (cA B106 [1, 1, 1, 1, 1, 1])] ⟨53, [(2, .v (.bool false)), (46, .v (.bool true)), (48, .v (.slice A xs.length ca)), (49, .fn 153 [(3, 0)])], [(3, ⟨3, [.v (.int .i64 3)]⟩)]⟩ (by kernel_rfl) ?_
                  refine X.inline (f := 154) (l := [.v (.slice A xs.length ca), .fn 153 [(3, 0)]]) (fn := Try.f154) (c := B154) (by kernel_rfl) (by kernel_rfl) Try.func154 (by kernel_rfl) ?_
                  intro Q34 M34 hM34 hQ34 fin34
                  refine X.run 9 [4, 5, 6] [1003] (.ops (aA B154 [1, 0]) (oA B154 [1, 0] 2 :: lA B154 [1, 0] 3)) [.seq (cA B154 [1, 1])] ⟨9, [(4, .v (.bool false)), (5, .v (.slice A xs.length ca)), (6, .fn 153 [(1003, 0)])], [(1003, ⟨3, [.v (.int .i64 3)]⟩)]⟩ (by kernel_rfl) ?_
                  refine X.inline (f := 171) (l := [.v (.slice A xs.length ca), .fn 153 [(1003, 0)]]) (fn := Try.f171) (c := B171) (by kernel_rfl) (by kernel_rfl) Try.func171 (by kernel_rfl) ?_
                  intro Q35 M35 hM35 hQ35 fin35
                  refine X.run 14 [0, 1, 4, 7, 8] [2003] (.code (cA B171 [1, 0, 1, 0])) [.blk 0, .seq (cA B171 [1, 1])] ⟨19, [(0, .v (.slice A xs.length ca)), (1, .fn 153 [(2003, 0)]), (4, .v (.int .i64 0)), (7, .v (.int .i64 ((xs.length : Nat) : Int))), (8, .v (.int .i64 0))], [(2003, ⟨3, [.v (.int .i64 3)]⟩)]⟩ (by kernel_rfl) ?_
                  refine X.run 0 [0, 1, 7, 8] [2003] (.code (cA B171 [1, 0, 1, 0])) [.blk 0, .seq (cA B171 [1, 1])] ⟨19, [(0, .v (.slice A xs.length ca)), (1, .fn 153 [(2003, 0)]), (7, .v (.int .i64 ((xs.length : Nat) : Int))), (8, .v (.int .i64 0))], [(2003, ⟨3, [.v (.int .i64 3)]⟩)]⟩ (by kernel_rfl) ?_
                  refine X.loopJ (fun m s R' G' => ∃ (i : Int), s = ⟨19, [(0, .v (.slice A xs.length ca)), (1, .fn 153 [(2003, 0)]), (7, .v (.int .i64 ((xs.length : Nat) : Int))), (8, .v (.int .i64 i))], [(2003, ⟨3, [.v (.int .i64 3)]⟩)]⟩ ∧ R' = [] ∧ G = G' ∧ (0 ≤ i ∧ i ≤ (xs.length : Int) ∧ ∀ n ∈ xs.take i.toNat, n < 16777216) ∧ m = ((xs.length : Int) - i).toNat) _ ⟨0, rfl, rfl, rfl, ⟨by omega, by omega, by simp⟩, rfl⟩ ?_
                  rintro m36 s36 R36 G36 ⟨i, rfl, rfl, rfl, hF36, rfl⟩ J36 hJ36
                  obtain ⟨hi0, hi1, hi2⟩ := hF36
                  refine X.run 6 [0, 1, 7, 8, 9] [2003] (.code (cA B171 [1, 0, 1, 0, 0, 1, 0])) [.seq (cA B171 [1, 0, 1, 0, 0, 1, 1]), .loop J36, .blk 0, .seq (cA B171 [1, 1])] ⟨19, [(0, .v (.slice A xs.length ca)), (1, .fn 153 [(2003, 0)]), (7, .v (.int .i64 ((xs.length : Nat) : Int))), (8, .v (.int .i64 i)), (9, .v (.bool (decide (i < ((xs.length : Nat) : Int)))))], [(2003, ⟨3, [.v (.int .i64 3)]⟩)]⟩ (by kernel_rfl) ?_
                  refine X.split 9 rfl (fun h37 => ?_) (fun h37 => ?_)
                  · -- slot 9: decide (i < ((xs.length : Nat) : Int)) is True
                    replace h37 : i < ((xs.length : Nat) : Int) := of_decide_eq_true h37
                    refine X.run 16 [0, 1, 5, 7, 8, 11, 12, 13] [2003] (.ops (aA B171 [1, 0, 1, 0, 0, 1, 1, 0, 0, 1, 0]) (oA B171 [1, 0, 1, 0, 0, 1, 1, 0, 0, 1, 0] 3 :: lA B171 [1, 0, 1, 0, 0, 1, 1, 0, 0, 1, 0] 4)) [.seq (cA B171 [1, 0, 1, 0, 0, 1, 1, 0, 0, 1, 1]), .blk 1, .seq (cA B171 [1, 0, 1, 0, 0, 1, 1, 1]), .loop J36, .blk 0, .seq (cA B171 [1, 1])] ⟨19, [(0, .v (.slice A xs.length ca)), (1, .fn 153 [(2003, 0)]), (5, .v (.int .i64 i)), (7, .v (.int .i64 ((xs.length : Nat) : Int))), (8, .v (.int .i64 i)), (11, .fn 153 [(2003, 0)]), (12, .v (.slice A xs.length ca)), (13, .v (.int .i64 i))], [(2003, ⟨3, [.v (.int .i64 3)]⟩)]⟩ (by kernel_rfl) ?_
                    have b38 : (0 : Int) ≤ i := by omega
                    have b39 : i < ((xs.length : Nat) : Int) := by omega
                    refine X.index (t := 63) (e := 29) (sz := 1) (A := A) (n := xs.length) (c := ca) (ki := .i64) (i := i) (x := .tmp 12) (ix := .tmp 13) (by kernel_rfl) (by kernel_rfl) (by kernel_rfl) (by kernel_rfl) (by kernel_rfl) (by kernel_rfl) b38 b39 (fun _ _ => rowAt.so hx (by omega)) ?_
                    obtain ⟨at40, lo40, hi40⟩ := At.int [] hx ((i).toNat) (by omega)
                    simp only [IntKind.lo, IntKind.hi] at lo40 hi40
                    refine X.run 0 [0, 1, 5, 7, 8, 11, 14] [2003] (.ops (aA B171 [1, 0, 1, 0, 0, 1, 1, 0, 0, 1, 0]) (oA B171 [1, 0, 1, 0, 0, 1, 1, 0, 0, 1, 0] 4 :: lA B171 [1, 0, 1, 0, 0, 1, 1, 0, 0, 1, 0] 5)) [.seq (cA B171 [1, 0, 1, 0, 0, 1, 1, 0, 0, 1, 1]), .blk 1, .seq (cA B171 [1, 0, 1, 0, 0, 1, 1, 1]), .loop J36, .blk 0, .seq (cA B171 [1, 1])] ⟨19, [(0, .v (.slice A xs.length ca)), (1, .fn 153 [(2003, 0)]), (5, .v (.int .i64 i)), (7, .v (.int .i64 ((xs.length : Nat) : Int))), (8, .v (.int .i64 i)), (11, .fn 153 [(2003, 0)]), (14, .v (elt A ((i).toNat * 1)))], [(2003, ⟨3, [.v (.int .i64 3)]⟩)]⟩ (by kernel_rfl) ?_
                    refine X.load (t := 29) (A := A) (j := (i).toNat * 1) (x := .tmp 14) (z := .int .u32 (xs.getD ((i).toNat) 0)) [.int .u32 (xs.getD ((i).toNat) 0)] (by kernel_rfl) (by kernel_rfl) at40 (by kernel_rfl) (by kernel_rfl) ?_
                    refine X.run 0 [0, 1, 5, 7, 8, 11, 15] [2003] (.ops (aA B171 [1, 0, 1, 0, 0, 1, 1, 0, 0, 1, 0]) (oA B171 [1, 0, 1, 0, 0, 1, 1, 0, 0, 1, 0] 5 :: lA B171 [1, 0, 1, 0, 0, 1, 1, 0, 0, 1, 0] 6)) [.seq (cA B171 [1, 0, 1, 0, 0, 1, 1, 0, 0, 1, 1]), .blk 1, .seq (cA B171 [1, 0, 1, 0, 0, 1, 1, 1]), .loop J36, .blk 0, .seq (cA B171 [1, 1])] ⟨19, [(0, .v (.slice A xs.length ca)), (1, .fn 153 [(2003, 0)]), (5, .v (.int .i64 i)), (7, .v (.int .i64 ((xs.length : Nat) : Int))), (8, .v (.int .i64 i)), (11, .fn 153 [(2003, 0)]), (15, .v (.int .u32 (xs.getD ((i).toNat) 0)))], [(2003, ⟨3, [.v (.int .i64 3)]⟩)]⟩ (by kernel_rfl) ?_
                    refine X.inline (f := 153) (l := [.v (.int .u32 (xs.getD ((i).toNat) 0)), .own 2003 0]) (fn := Try.f153) (c := B153) (by kernel_rfl) (by kernel_rfl) Try.func153 (by kernel_rfl) ?_
                    intro Q41 M41 hM41 hQ41 fin41
                    refine X.run 9 [1, 3, 5] [3003] (.ops (aA B153 [1, 0]) (oA B153 [1, 0] 2 :: lA B153 [1, 0] 3)) [.seq (cA B153 [1, 1])] ⟨10, [(1, .own 3003 0), (3, .v (.bool false)), (5, .v (.int .u64 (IntKind.u64.wrap (xs.getD ((i).toNat) 0))))], [(3003, ⟨3, [.v (.int .i64 3)]⟩)]⟩ (by kernel_rfl) ?_
                    refine X.known 5 (y := .v (.int .u64 (xs.getD ((i).toNat) 0))) rfl (congrArg (fun z_ => AV.v (.int .u64 z_)) (wu64 (by omega) (by omega))) ?_
                    refine X.run 3 [3, 8] [3003] (.ops (aA B153 [1, 0]) (oA B153 [1, 0] 5 :: lA B153 [1, 0] 6)) [.seq (cA B153 [1, 1])] ⟨10, [(3, .v (.bool false)), (8, .v (.int .u64 (bshr .u64 (xs.getD ((i).toNat) 0) 24)))], [(3003, ⟨3, [.v (.int .i64 3)]⟩)]⟩ (by kernel_rfl) ?_
                    refine X.known 8 (y := .v (.int .u64 ((xs.getD ((i).toNat) 0) / 16777216))) rfl (congrArg (fun z_ => AV.v (.int .u64 z_)) (by rw [shr_nn (by omega), show ((2 : Int) ^ min 24 IntKind.u64.bits) = 16777216 by decide])) ?_
                    refine X.run 5 [3] [3003] (.ex .ret) [] ⟨10, [(3, .v (.bool (decide ((xs.getD ((i).toNat) 0) / 16777216 > 0))))], [(3003, ⟨3, [.v (.int .i64 3)]⟩)]⟩ (by kernel_rfl) ?_
                    refine fin41 _ _ _ _ [.bool (decide ((xs.getD ((i).toNat) 0) / 16777216 > 0))] [(2003, ⟨3, [.v (.int .i64 3)]⟩)] (.inl rfl) (by kernel_rfl) (by kernel_rfl) ?_
                    refine X.run 2 [0, 1, 5, 7, 8, 16] [2003] (.code (cA B171 [1, 0, 1, 0, 0, 1, 1, 0, 0, 1, 1])) [.blk 1, .seq (cA B171 [1, 0, 1, 0, 0, 1, 1, 1]), .loop J36, .blk 0, .seq (cA B171 [1, 1])] ⟨19, [(0, .v (.slice A xs.length ca)), (1, .fn 153 [(2003, 0)]), (5, .v (.int .i64 i)), (7, .v (.int .i64 ((xs.length : Nat) : Int))), (8, .v (.int .i64 i)), (16, .v (.bool (decide ((xs.getD ((i).toNat) 0) / 16777216 > 0))))], [(2003, ⟨3, [.v (.int .i64 3)]⟩)]⟩ (by kernel_rfl) ?_
                    refine X.split 16 rfl (fun h42 => ?_) (fun h42 => ?_)
                    · -- slot 16: decide ((xs.getD ((i).toNat) 0) / 16777216 > 0) is True
                      replace h42 : (xs.getD ((i).toNat) 0) / 16777216 > 0 := of_decide_eq_true h42
                      refine X.run 13 [4] [2003] (.ex .ret) [] ⟨19, [(4, .v (.int .i64 i))], [(2003, ⟨3, [.v (.int .i64 3)]⟩)]⟩ (by kernel_rfl) ?_
                      refine fin35 _ _ _ _ [.int .i64 i] [(1003, ⟨3, [.v (.int .i64 3)]⟩)] (.inl rfl) (by kernel_rfl) (by kernel_rfl) ?_
                      refine X.run 5 [4] [1003] (.ex .ret) [] ⟨9, [(4, .v (.bool (decide (i ≥ 0))))], [(1003, ⟨3, [.v (.int .i64 3)]⟩)]⟩ (by kernel_rfl) ?_
                      refine fin34 _ _ _ _ [.bool (decide (i ≥ 0))] [(3, ⟨3, [.v (.int .i64 3)]⟩)] (.inl rfl) (by kernel_rfl) (by kernel_rfl) ?_
                      refine X.run 6 [2] [] (.ex .ret) [] ⟨53, [(2, .v (.bool (!(decide (i ≥ 0)))))], []⟩ (by kernel_rfl) ?_
                      refine doneG (.inl rfl) [.bool (!(decide (i ≥ 0)))] [] (by kernel_rfl) rfl rfl (Ge.refl _ _) ?_
                      -- end 29 (FFFFTTTTTT)
                      refine ⟨congrArg Value.bool ?_, rfl⟩
                      rw [decide_eq_true (show i ≥ 0 by omega)]
                      exact (fine_big (show 2 ≤ k1 ∧ k1 ≤ 255 from ⟨by omega, by omega⟩) (show szk k1 ≠ 0 by rw [show k1 = 172 by assumption]; decide) (show (256 : Int) ^ (szk k1).toNat = 16777216 by rw [show k1 = 172 by assumption]; rfl) (getD_mem (i := i.toNat) (d := 0) (by omega)) (by omega)).symm
                    · -- slot 16: decide ((xs.getD ((i).toNat) 0) / 16777216 > 0) is False
                      replace h42 : ¬ ((xs.getD ((i).toNat) 0) / 16777216 > 0) := of_decide_eq_false h42
                      refine X.run 8 [0, 1, 7, 8] [2003] (.ex .normal) [.loop J36, .blk 0, .seq (cA B171 [1, 1])] ⟨19, [(0, .v (.slice A xs.length ca)), (1, .fn 153 [(2003, 0)]), (7, .v (.int .i64 ((xs.length : Nat) : Int))), (8, .v (.int .i64 (IntKind.i64.wrap (i + 1))))], [(2003, ⟨3, [.v (.int .i64 3)]⟩)]⟩ (by kernel_rfl) ?_
                      -- again (FFFFTTTTTF)
                      have e1 : IntKind.i64.wrap (i + 1) = i + 1 := wi64 (by omega) (by omega)
                      have e0 : (i + 1).toNat = i.toNat + 1 := by omega
                      exact X.again (hJ36 _ _ _ _ ⟨IntKind.i64.wrap (i + 1), rfl, rfl, rfl, ⟨by omega, by omega, by rw [e1, e0]; exact take_all (d := 0) hi2 (by omega) (by omega)⟩, rfl⟩ (by rw [e1]; omega))
                  · -- slot 9: decide (i < ((xs.length : Nat) : Int)) is False
                    replace h37 : ¬ (i < ((xs.length : Nat) : Int)) := of_decide_eq_false h37
                    refine X.run 12 [4] [2003] (.ex .ret) [] ⟨19, [(4, .v (.int .i64 (-1)))], [(2003, ⟨3, [.v (.int .i64 3)]⟩)]⟩ (by kernel_rfl) ?_
                    refine fin35 _ _ _ _ [.int .i64 (-1)] [(1003, ⟨3, [.v (.int .i64 3)]⟩)] (.inl rfl) (by kernel_rfl) (by kernel_rfl) ?_
                    refine X.run 5 [4] [1003] (.ex .ret) [] ⟨9, [(4, .v (.bool false))], [(1003, ⟨3, [.v (.int .i64 3)]⟩)]⟩ (by kernel_rfl) ?_
                    refine fin34 _ _ _ _ [.bool false] [(3, ⟨3, [.v (.int .i64 3)]⟩)] (.inl rfl) (by kernel_rfl) (by kernel_rfl) ?_
                    refine X.run 6 [2] [] (.ex .ret) [] ⟨53, [(2, .v (.bool true))], []⟩ (by kernel_rfl) ?_
                    refine doneG (.inl rfl) [.bool true] [] (by kernel_rfl) rfl rfl (Ge.refl _ _) ?_
                    -- end 32 (FFFFTTTTF)
                    refine ⟨congrArg Value.bool ?_, rfl⟩
                    rw [List.take_of_length_le (by omega)] at hi2
                    exact (fine_yes (show 2 ≤ k1 ∧ k1 ≤ 255 from ⟨by omega, by omega⟩) (show szk k1 ≠ 0 by rw [show k1 = 172 by assumption]; decide) (show (256 : Int) ^ (szk k1).toNat = 16777216 by rw [show k1 = 172 by assumption]; rfl) (by assumption) (show lk2 k1 ≤ (xs.length : Int) ∧ (xs.length : Int) ≤ mk2 k1 by rw [show k1 = 172 by assumption, show lk2 172 = 0 from rfl, show mk2 172 = 3 from rfl]; omega) hi2).symm
                · -- slot 46: decide (((xs.length : Nat) : Int) ≤ 3) is False
                  replace h33 : ¬ (((xs.length : Nat) : Int) ≤ 3) := of_decide_eq_false h33
                  refine X.run 10 [2] [] (.ex .ret) [] ⟨53, [(2, .v (.bool false))], []⟩ (by kernel_rfl) ?_
                  refine doneG (.inl rfl) [.bool false] [] (by kernel_rfl) rfl rfl (Ge.refl _ _) ?_
                  -- end 33 (FFFFTTTF)
                  refine ⟨congrArg Value.bool ?_, rfl⟩
                  first | exact (fine_raw (show 2 ≤ k1 ∧ k1 ≤ 255 from ⟨by omega, by omega⟩) (show szk k1 ≠ 0 by rw [show k1 = 172 by assumption]; decide) (by assumption)).symm | exact (fine_few (show 2 ≤ k1 ∧ k1 ≤ 255 from ⟨by omega, by omega⟩) (show szk k1 ≠ 0 by rw [show k1 = 172 by assumption]; decide) (show ¬ (lk2 k1 ≤ (xs.length : Int) ∧ (xs.length : Int) ≤ mk2 k1) by rw [show k1 = 172 by assumption, show lk2 172 = 0 from rfl, show mk2 172 = 3 from rfl]; omega)).symm
              · -- slot 39: decide (((xs.length : Nat) : Int) ≥ 0) is False
                replace h32 : ¬ (((xs.length : Nat) : Int) ≥ 0) := of_decide_eq_false h32
                refine X.run 17 [2] [] (.ex .ret) [] ⟨53, [(2, .v (.bool false))], []⟩ (by kernel_rfl) ?_
                refine doneG (.inl rfl) [.bool false] [] (by kernel_rfl) rfl rfl (Ge.refl _ _) ?_
                -- end 34 (FFFFTTF)
                refine ⟨congrArg Value.bool ?_, rfl⟩
                first | exact (fine_raw (show 2 ≤ k1 ∧ k1 ≤ 255 from ⟨by omega, by omega⟩) (show szk k1 ≠ 0 by rw [show k1 = 172 by assumption]; decide) (by assumption)).symm | exact (fine_few (show 2 ≤ k1 ∧ k1 ≤ 255 from ⟨by omega, by omega⟩) (show szk k1 ≠ 0 by rw [show k1 = 172 by assumption]; decide) (show ¬ (lk2 k1 ≤ (xs.length : Int) ∧ (xs.length : Int) ≤ mk2 k1) by rw [show k1 = 172 by assumption, show lk2 172 = 0 from rfl, show mk2 172 = 3 from rfl]; omega)).symm
            · -- slot 32: (s1.toList == (⟨#[]⟩ : ByteArray).toList) is False
              replace h31 : s1 ≠ (⟨#[]⟩ : ByteArray) := strF h31
              refine X.run 24 [2] [] (.ex .ret) [] ⟨53, [(2, .v (.bool false))], []⟩ (by kernel_rfl) ?_
              refine doneG (.inl rfl) [.bool false] [] (by kernel_rfl) rfl rfl (Ge.refl _ _) ?_
              -- end 35 (FFFFTF)
              refine ⟨congrArg Value.bool ?_, rfl⟩
              first | exact (fine_raw (show 2 ≤ k1 ∧ k1 ≤ 255 from ⟨by omega, by omega⟩) (show szk k1 ≠ 0 by rw [show k1 = 172 by assumption]; decide) (by assumption)).symm | exact (fine_few (show 2 ≤ k1 ∧ k1 ≤ 255 from ⟨by omega, by omega⟩) (show szk k1 ≠ 0 by rw [show k1 = 172 by assumption]; decide) (show ¬ (lk2 k1 ≤ (xs.length : Int) ∧ (xs.length : Int) ≤ mk2 k1) by rw [show k1 = 172 by assumption, show lk2 172 = 0 from rfl, show mk2 172 = 3 from rfl]; omega)).symm
          · -- slot 10: k1 == 172 is False
            replace h30 : k1 ≠ 172 := by simpa using h30
            refine X.run 6 [2, 3, 4, 10] [1001] (.code (cA B108 [1, 0, 1, 0, 1, 1, 1, 1, 1])) [.blk 0, .seq (cA B108 [1, 1])] ⟨13, [(2, .v (.int .i64 0)), (3, .v (.int .i64 0)), (4, .v (.int .i64 0)), (10, .v (.bool (k1 == 174)))], [(1001, ⟨65, [.v (.int .i64 k1), .v (.slice A xs.length ca), .v (.string s1)]⟩)]⟩ (by kernel_rfl) ?_
            refine X.split 10 rfl (fun h43 => ?_) (fun h43 => ?_)
            · -- slot 10: k1 == 174 is True
              replace h43 : k1 = 174 := by simpa using h43
              refine X.run 11 [2, 3, 4] [1001] (.ex .ret) [] ⟨13, [(2, .v (.int .i64 3)), (3, .v (.int .i64 0)), (4, .v (.int .i64 3))], [(1001, ⟨65, [.v (.int .i64 k1), .v (.slice A xs.length ca), .v (.string s1)]⟩)]⟩ (by kernel_rfl) ?_
              refine fin3 _ _ _ _ [.int .i64 3, .int .i64 0, .int .i64 3] [(1, ⟨65, [.v (.int .i64 k1), .v (.slice A xs.length ca), .v (.string s1)]⟩)] (.inl rfl) (by kernel_rfl) (by kernel_rfl) ?_
              refine X.run 32 [1, 2, 4, 5, 6, 32] [1, 3] (.ops (aA B106 [1, 1, 1, 1, 1, 0]) (oA B106 [1, 1, 1, 1, 1, 0] 4 :: lA B106 [1, 1, 1, 1, 1, 0] 5)) [.seq (cA B106 [1, 1, 1, 1, 1, 1])] ⟨53, [(1, .own 1 0), (2, .v (.bool false)), (4, .v (.int .i64 0)), (5, .v (.int .i64 3)), (6, .fn 153 [(3, 0)]), (32, .v (.bool (s1.toList == (⟨#[]⟩ : ByteArray).toList)))], [(1, ⟨65, [.v (.int .i64 k1), .v (.slice A xs.length ca), .v (.string s1)]⟩), (3, ⟨3, [.v (.int .i64 3)]⟩)]⟩ (by kernel_rfl) ?_
              refine X.split 32 rfl (fun h44 => ?_) (fun h44 => ?_)
              · -- slot 32: (s1.toList == (⟨#[]⟩ : ByteArray).toList) is True
                replace h44 : s1 = (⟨#[]⟩ : ByteArray) := strT h44
                refine X.run 7 [1, 2, 5, 6, 39] [1, 3] (.ops (aA B106 [1, 1, 1, 1, 1, 0]) (oA B106 [1, 1, 1, 1, 1, 0] 11 :: lA B106 [1, 1, 1, 1, 1, 0] 12)) [.seq (cA B106 [1, 1, 1, 1, 1, 1])] ⟨53, [(1, .own 1 0), (2, .v (.bool false)), (5, .v (.int .i64 3)), (6, .fn 153 [(3, 0)]), (39, .v (.bool (decide (((xs.length : Nat) : Int) ≥ 0))))], [(1, ⟨65, [.v (.int .i64 k1), .v (.slice A xs.length ca), .v (.string s1)]⟩), (3, ⟨3, [.v (.int .i64 3)]⟩)]⟩ (by kernel_rfl) ?_
                refine X.split 39 rfl (fun h45 => ?_) (fun h45 => ?_)
                · -- slot 39: decide (((xs.length : Nat) : Int) ≥ 0) is True
                  replace h45 : ((xs.length : Nat) : Int) ≥ 0 := of_decide_eq_true h45
                  refine X.run 7 [1, 2, 6, 46] [1, 3] (.ops (aA B106 [1, 1, 1, 1, 1, 0]) (oA B106 [1, 1, 1, 1, 1, 0] 18 :: lA B106 [1, 1, 1, 1, 1, 0] 19)) [.seq (cA B106 [1, 1, 1, 1, 1, 1])] ⟨53, [(1, .own 1 0), (2, .v (.bool false)), (6, .fn 153 [(3, 0)]), (46, .v (.bool (decide (((xs.length : Nat) : Int) ≤ 3))))], [(1, ⟨65, [.v (.int .i64 k1), .v (.slice A xs.length ca), .v (.string s1)]⟩), (3, ⟨3, [.v (.int .i64 3)]⟩)]⟩ (by kernel_rfl) ?_
                  refine X.split 46 rfl (fun h46 => ?_) (fun h46 => ?_)
                  · -- slot 46: decide (((xs.length : Nat) : Int) ≤ 3) is True
                    replace h46 : ((xs.length : Nat) : Int) ≤ 3 := of_decide_eq_true h46
                    refine X.run 3 [2, 46, 48, 49] [3] (.ops (aA B106 [1, 1, 1, 1, 1, 0]) (oA B106 [1, 1, 1, 1, 1, 0] 21 :: lA B106 [1, 1, 1, 1, 1, 0] 22)) [.seq (cA B106 [1, 1, 1, 1, 1, 1])] ⟨53, [(2, .v (.bool false)), (46, .v (.bool true)), (48, .v (.slice A xs.length ca)), (49, .fn 153 [(3, 0)])], [(3, ⟨3, [.v (.int .i64 3)]⟩)]⟩ (by kernel_rfl) ?_
                    refine X.inline (f := 154) (l := [.v (.slice A xs.length ca), .fn 153 [(3, 0)]]) (fn := Try.f154) (c := B154) (by kernel_rfl) (by kernel_rfl) Try.func154 (by kernel_rfl) ?_
                    intro Q47 M47 hM47 hQ47 fin47
                    refine X.run 9 [4, 5, 6] [1003] (.ops (aA B154 [1, 0]) (oA B154 [1, 0] 2 :: lA B154 [1, 0] 3)) [.seq (cA B154 [1, 1])] ⟨9, [(4, .v (.bool false)), (5, .v (.slice A xs.length ca)), (6, .fn 153 [(1003, 0)])], [(1003, ⟨3, [.v (.int .i64 3)]⟩)]⟩ (by kernel_rfl) ?_
                    refine X.inline (f := 171) (l := [.v (.slice A xs.length ca), .fn 153 [(1003, 0)]]) (fn := Try.f171) (c := B171) (by kernel_rfl) (by kernel_rfl) Try.func171 (by kernel_rfl) ?_
                    intro Q48 M48 hM48 hQ48 fin48
                    refine X.run 14 [0, 1, 4, 7, 8] [2003] (.code (cA B171 [1, 0, 1, 0])) [.blk 0, .seq (cA B171 [1, 1])] ⟨19, [(0, .v (.slice A xs.length ca)), (1, .fn 153 [(2003, 0)]), (4, .v (.int .i64 0)), (7, .v (.int .i64 ((xs.length : Nat) : Int))), (8, .v (.int .i64 0))], [(2003, ⟨3, [.v (.int .i64 3)]⟩)]⟩ (by kernel_rfl) ?_
                    refine X.run 0 [0, 1, 7, 8] [2003] (.code (cA B171 [1, 0, 1, 0])) [.blk 0, .seq (cA B171 [1, 1])] ⟨19, [(0, .v (.slice A xs.length ca)), (1, .fn 153 [(2003, 0)]), (7, .v (.int .i64 ((xs.length : Nat) : Int))), (8, .v (.int .i64 0))], [(2003, ⟨3, [.v (.int .i64 3)]⟩)]⟩ (by kernel_rfl) ?_
                    refine X.loopJ (fun m s R' G' => ∃ (i : Int), s = ⟨19, [(0, .v (.slice A xs.length ca)), (1, .fn 153 [(2003, 0)]), (7, .v (.int .i64 ((xs.length : Nat) : Int))), (8, .v (.int .i64 i))], [(2003, ⟨3, [.v (.int .i64 3)]⟩)]⟩ ∧ R' = [] ∧ G = G' ∧ (0 ≤ i ∧ i ≤ (xs.length : Int) ∧ ∀ n ∈ xs.take i.toNat, n < 16777216) ∧ m = ((xs.length : Int) - i).toNat) _ ⟨0, rfl, rfl, rfl, ⟨by omega, by omega, by simp⟩, rfl⟩ ?_
                    rintro m49 s49 R49 G49 ⟨i, rfl, rfl, rfl, hF49, rfl⟩ J49 hJ49
                    obtain ⟨hi0, hi1, hi2⟩ := hF49
                    refine X.run 6 [0, 1, 7, 8, 9] [2003] (.code (cA B171 [1, 0, 1, 0, 0, 1, 0])) [.seq (cA B171 [1, 0, 1, 0, 0, 1, 1]), .loop J49, .blk 0, .seq (cA B171 [1, 1])] ⟨19, [(0, .v (.slice A xs.length ca)), (1, .fn 153 [(2003, 0)]), (7, .v (.int .i64 ((xs.length : Nat) : Int))), (8, .v (.int .i64 i)), (9, .v (.bool (decide (i < ((xs.length : Nat) : Int)))))], [(2003, ⟨3, [.v (.int .i64 3)]⟩)]⟩ (by kernel_rfl) ?_
                    refine X.split 9 rfl (fun h50 => ?_) (fun h50 => ?_)
                    · -- slot 9: decide (i < ((xs.length : Nat) : Int)) is True
                      replace h50 : i < ((xs.length : Nat) : Int) := of_decide_eq_true h50
                      refine X.run 16 [0, 1, 5, 7, 8, 11, 12, 13] [2003] (.ops (aA B171 [1, 0, 1, 0, 0, 1, 1, 0, 0, 1, 0]) (oA B171 [1, 0, 1, 0, 0, 1, 1, 0, 0, 1, 0] 3 :: lA B171 [1, 0, 1, 0, 0, 1, 1, 0, 0, 1, 0] 4)) [.seq (cA B171 [1, 0, 1, 0, 0, 1, 1, 0, 0, 1, 1]), .blk 1, .seq (cA B171 [1, 0, 1, 0, 0, 1, 1, 1]), .loop J49, .blk 0, .seq (cA B171 [1, 1])] ⟨19, [(0, .v (.slice A xs.length ca)), (1, .fn 153 [(2003, 0)]), (5, .v (.int .i64 i)), (7, .v (.int .i64 ((xs.length : Nat) : Int))), (8, .v (.int .i64 i)), (11, .fn 153 [(2003, 0)]), (12, .v (.slice A xs.length ca)), (13, .v (.int .i64 i))], [(2003, ⟨3, [.v (.int .i64 3)]⟩)]⟩ (by kernel_rfl) ?_
                      have b51 : (0 : Int) ≤ i := by omega
                      have b52 : i < ((xs.length : Nat) : Int) := by omega
                      refine X.index (t := 63) (e := 29) (sz := 1) (A := A) (n := xs.length) (c := ca) (ki := .i64) (i := i) (x := .tmp 12) (ix := .tmp 13) (by kernel_rfl) (by kernel_rfl) (by kernel_rfl) (by kernel_rfl) (by kernel_rfl) (by kernel_rfl) b51 b52 (fun _ _ => rowAt.so hx (by omega)) ?_
                      obtain ⟨at53, lo53, hi53⟩ := At.int [] hx ((i).toNat) (by omega)
                      simp only [IntKind.lo, IntKind.hi] at lo53 hi53
                      refine X.run 0 [0, 1, 5, 7, 8, 11, 14] [2003] (.ops (aA B171 [1, 0, 1, 0, 0, 1, 1, 0, 0, 1, 0]) (oA B171 [1, 0, 1, 0, 0, 1, 1, 0, 0, 1, 0] 4 :: lA B171 [1, 0, 1, 0, 0, 1, 1, 0, 0, 1, 0] 5)) [.seq (cA B171 [1, 0, 1, 0, 0, 1, 1, 0, 0, 1, 1]), .blk 1, .seq (cA B171 [1, 0, 1, 0, 0, 1, 1, 1]), .loop J49, .blk 0, .seq (cA B171 [1, 1])] ⟨19, [(0, .v (.slice A xs.length ca)), (1, .fn 153 [(2003, 0)]), (5, .v (.int .i64 i)), (7, .v (.int .i64 ((xs.length : Nat) : Int))), (8, .v (.int .i64 i)), (11, .fn 153 [(2003, 0)]), (14, .v (elt A ((i).toNat * 1)))], [(2003, ⟨3, [.v (.int .i64 3)]⟩)]⟩ (by kernel_rfl) ?_
                      refine X.load (t := 29) (A := A) (j := (i).toNat * 1) (x := .tmp 14) (z := .int .u32 (xs.getD ((i).toNat) 0)) [.int .u32 (xs.getD ((i).toNat) 0)] (by kernel_rfl) (by kernel_rfl) at53 (by kernel_rfl) (by kernel_rfl) ?_
                      refine X.run 0 [0, 1, 5, 7, 8, 11, 15] [2003] (.ops (aA B171 [1, 0, 1, 0, 0, 1, 1, 0, 0, 1, 0]) (oA B171 [1, 0, 1, 0, 0, 1, 1, 0, 0, 1, 0] 5 :: lA B171 [1, 0, 1, 0, 0, 1, 1, 0, 0, 1, 0] 6)) [.seq (cA B171 [1, 0, 1, 0, 0, 1, 1, 0, 0, 1, 1]), .blk 1, .seq (cA B171 [1, 0, 1, 0, 0, 1, 1, 1]), .loop J49, .blk 0, .seq (cA B171 [1, 1])] ⟨19, [(0, .v (.slice A xs.length ca)), (1, .fn 153 [(2003, 0)]), (5, .v (.int .i64 i)), (7, .v (.int .i64 ((xs.length : Nat) : Int))), (8, .v (.int .i64 i)), (11, .fn 153 [(2003, 0)]), (15, .v (.int .u32 (xs.getD ((i).toNat) 0)))], [(2003, ⟨3, [.v (.int .i64 3)]⟩)]⟩ (by kernel_rfl) ?_
                      refine X.inline (f := 153) (l := [.v (.int .u32 (xs.getD ((i).toNat) 0)), .own 2003 0]) (fn := Try.f153) (c := B153) (by kernel_rfl) (by kernel_rfl) Try.func153 (by kernel_rfl) ?_
                      intro Q54 M54 hM54 hQ54 fin54
                      refine X.run 9 [1, 3, 5] [3003] (.ops (aA B153 [1, 0]) (oA B153 [1, 0] 2 :: lA B153 [1, 0] 3)) [.seq (cA B153 [1, 1])] ⟨10, [(1, .own 3003 0), (3, .v (.bool false)), (5, .v (.int .u64 (IntKind.u64.wrap (xs.getD ((i).toNat) 0))))], [(3003, ⟨3, [.v (.int .i64 3)]⟩)]⟩ (by kernel_rfl) ?_
                      refine X.known 5 (y := .v (.int .u64 (xs.getD ((i).toNat) 0))) rfl (congrArg (fun z_ => AV.v (.int .u64 z_)) (wu64 (by omega) (by omega))) ?_
                      refine X.run 3 [3, 8] [3003] (.ops (aA B153 [1, 0]) (oA B153 [1, 0] 5 :: lA B153 [1, 0] 6)) [.seq (cA B153 [1, 1])] ⟨10, [(3, .v (.bool false)), (8, .v (.int .u64 (bshr .u64 (xs.getD ((i).toNat) 0) 24)))], [(3003, ⟨3, [.v (.int .i64 3)]⟩)]⟩ (by kernel_rfl) ?_
                      refine X.known 8 (y := .v (.int .u64 ((xs.getD ((i).toNat) 0) / 16777216))) rfl (congrArg (fun z_ => AV.v (.int .u64 z_)) (by rw [shr_nn (by omega), show ((2 : Int) ^ min 24 IntKind.u64.bits) = 16777216 by decide])) ?_
                      refine X.run 5 [3] [3003] (.ex .ret) [] ⟨10, [(3, .v (.bool (decide ((xs.getD ((i).toNat) 0) / 16777216 > 0))))], [(3003, ⟨3, [.v (.int .i64 3)]⟩)]⟩ (by kernel_rfl) ?_
                      refine fin54 _ _ _ _ [.bool (decide ((xs.getD ((i).toNat) 0) / 16777216 > 0))] [(2003, ⟨3, [.v (.int .i64 3)]⟩)] (.inl rfl) (by kernel_rfl) (by kernel_rfl) ?_
                      refine X.run 2 [0, 1, 5, 7, 8, 16] [2003] (.code (cA B171 [1, 0, 1, 0, 0, 1, 1, 0, 0, 1, 1])) [.blk 1, .seq (cA B171 [1, 0, 1, 0, 0, 1, 1, 1]), .loop J49, .blk 0, .seq (cA B171 [1, 1])] ⟨19, [(0, .v (.slice A xs.length ca)), (1, .fn 153 [(2003, 0)]), (5, .v (.int .i64 i)), (7, .v (.int .i64 ((xs.length : Nat) : Int))), (8, .v (.int .i64 i)), (16, .v (.bool (decide ((xs.getD ((i).toNat) 0) / 16777216 > 0))))], [(2003, ⟨3, [.v (.int .i64 3)]⟩)]⟩ (by kernel_rfl) ?_
                      refine X.split 16 rfl (fun h55 => ?_) (fun h55 => ?_)
                      · -- slot 16: decide ((xs.getD ((i).toNat) 0) / 16777216 > 0) is True
                        replace h55 : (xs.getD ((i).toNat) 0) / 16777216 > 0 := of_decide_eq_true h55
                        refine X.run 13 [4] [2003] (.ex .ret) [] ⟨19, [(4, .v (.int .i64 i))], [(2003, ⟨3, [.v (.int .i64 3)]⟩)]⟩ (by kernel_rfl) ?_
                        refine fin48 _ _ _ _ [.int .i64 i] [(1003, ⟨3, [.v (.int .i64 3)]⟩)] (.inl rfl) (by kernel_rfl) (by kernel_rfl) ?_
                        refine X.run 5 [4] [1003] (.ex .ret) [] ⟨9, [(4, .v (.bool (decide (i ≥ 0))))], [(1003, ⟨3, [.v (.int .i64 3)]⟩)]⟩ (by kernel_rfl) ?_
                        refine fin47 _ _ _ _ [.bool (decide (i ≥ 0))] [(3, ⟨3, [.v (.int .i64 3)]⟩)] (.inl rfl) (by kernel_rfl) (by kernel_rfl) ?_
                        refine X.run 6 [2] [] (.ex .ret) [] ⟨53, [(2, .v (.bool (!(decide (i ≥ 0)))))], []⟩ (by kernel_rfl) ?_
                        refine doneG (.inl rfl) [.bool (!(decide (i ≥ 0)))] [] (by kernel_rfl) rfl rfl (Ge.refl _ _) ?_
                        -- end 40 (FFFFFTTTTTT)
                        refine ⟨congrArg Value.bool ?_, rfl⟩
                        rw [decide_eq_true (show i ≥ 0 by omega)]
                        exact (fine_big (show 2 ≤ k1 ∧ k1 ≤ 255 from ⟨by omega, by omega⟩) (show szk k1 ≠ 0 by rw [show k1 = 174 by assumption]; decide) (show (256 : Int) ^ (szk k1).toNat = 16777216 by rw [show k1 = 174 by assumption]; rfl) (getD_mem (i := i.toNat) (d := 0) (by omega)) (by omega)).symm
                      · -- slot 16: decide ((xs.getD ((i).toNat) 0) / 16777216 > 0) is False
                        replace h55 : ¬ ((xs.getD ((i).toNat) 0) / 16777216 > 0) := of_decide_eq_false h55
                        refine X.run 8 [0, 1, 7, 8] [2003] (.ex .normal) [.loop J49, .blk 0, .seq (cA B171 [1, 1])] ⟨19, [(0, .v (.slice A xs.length ca)), (1, .fn 153 [(2003, 0)]), (7, .v (.int .i64 ((xs.length : Nat) : Int))), (8, .v (.int .i64 (IntKind.i64.wrap (i + 1))))], [(2003, ⟨3, [.v (.int .i64 3)]⟩)]⟩ (by kernel_rfl) ?_
                        -- again (FFFFFTTTTTF)
                        have e1 : IntKind.i64.wrap (i + 1) = i + 1 := wi64 (by omega) (by omega)
                        have e0 : (i + 1).toNat = i.toNat + 1 := by omega
                        exact X.again (hJ49 _ _ _ _ ⟨IntKind.i64.wrap (i + 1), rfl, rfl, rfl, ⟨by omega, by omega, by rw [e1, e0]; exact take_all (d := 0) hi2 (by omega) (by omega)⟩, rfl⟩ (by rw [e1]; omega))
                    · -- slot 9: decide (i < ((xs.length : Nat) : Int)) is False
                      replace h50 : ¬ (i < ((xs.length : Nat) : Int)) := of_decide_eq_false h50
                      refine X.run 12 [4] [2003] (.ex .ret) [] ⟨19, [(4, .v (.int .i64 (-1)))], [(2003, ⟨3, [.v (.int .i64 3)]⟩)]⟩ (by kernel_rfl) ?_
                      refine fin48 _ _ _ _ [.int .i64 (-1)] [(1003, ⟨3, [.v (.int .i64 3)]⟩)] (.inl rfl) (by kernel_rfl) (by kernel_rfl) ?_
                      refine X.run 5 [4] [1003] (.ex .ret) [] ⟨9, [(4, .v (.bool false))], [(1003, ⟨3, [.v (.int .i64 3)]⟩)]⟩ (by kernel_rfl) ?_
                      refine fin47 _ _ _ _ [.bool false] [(3, ⟨3, [.v (.int .i64 3)]⟩)] (.inl rfl) (by kernel_rfl) (by kernel_rfl) ?_
                      refine X.run 6 [2] [] (.ex .ret) [] ⟨53, [(2, .v (.bool true))], []⟩ (by kernel_rfl) ?_
                      refine doneG (.inl rfl) [.bool true] [] (by kernel_rfl) rfl rfl (Ge.refl _ _) ?_
                      -- end 43 (FFFFFTTTTF)
                      refine ⟨congrArg Value.bool ?_, rfl⟩
                      rw [List.take_of_length_le (by omega)] at hi2
                      exact (fine_yes (show 2 ≤ k1 ∧ k1 ≤ 255 from ⟨by omega, by omega⟩) (show szk k1 ≠ 0 by rw [show k1 = 174 by assumption]; decide) (show (256 : Int) ^ (szk k1).toNat = 16777216 by rw [show k1 = 174 by assumption]; rfl) (by assumption) (show lk2 k1 ≤ (xs.length : Int) ∧ (xs.length : Int) ≤ mk2 k1 by rw [show k1 = 174 by assumption, show lk2 174 = 0 from rfl, show mk2 174 = 3 from rfl]; omega) hi2).symm
                  · -- slot 46: decide (((xs.length : Nat) : Int) ≤ 3) is False
                    replace h46 : ¬ (((xs.length : Nat) : Int) ≤ 3) := of_decide_eq_false h46
                    refine X.run 10 [2] [] (.ex .ret) [] ⟨53, [(2, .v (.bool false))], []⟩ (by kernel_rfl) ?_
                    refine doneG (.inl rfl) [.bool false] [] (by kernel_rfl) rfl rfl (Ge.refl _ _) ?_
                    -- end 44 (FFFFFTTTF)
                    refine ⟨congrArg Value.bool ?_, rfl⟩
                    first | exact (fine_raw (show 2 ≤ k1 ∧ k1 ≤ 255 from ⟨by omega, by omega⟩) (show szk k1 ≠ 0 by rw [show k1 = 174 by assumption]; decide) (by assumption)).symm | exact (fine_few (show 2 ≤ k1 ∧ k1 ≤ 255 from ⟨by omega, by omega⟩) (show szk k1 ≠ 0 by rw [show k1 = 174 by assumption]; decide) (show ¬ (lk2 k1 ≤ (xs.length : Int) ∧ (xs.length : Int) ≤ mk2 k1) by rw [show k1 = 174 by assumption, show lk2 174 = 0 from rfl, show mk2 174 = 3 from rfl]; omega)).symm
                · -- slot 39: decide (((xs.length : Nat) : Int) ≥ 0) is False
                  replace h45 : ¬ (((xs.length : Nat) : Int) ≥ 0) := of_decide_eq_false h45
                  refine X.run 17 [2] [] (.ex .ret) [] ⟨53, [(2, .v (.bool false))], []⟩ (by kernel_rfl) ?_
                  refine doneG (.inl rfl) [.bool false] [] (by kernel_rfl) rfl rfl (Ge.refl _ _) ?_
                  -- end 45 (FFFFFTTF)
                  refine ⟨congrArg Value.bool ?_, rfl⟩
                  first | exact (fine_raw (show 2 ≤ k1 ∧ k1 ≤ 255 from ⟨by omega, by omega⟩) (show szk k1 ≠ 0 by rw [show k1 = 174 by assumption]; decide) (by assumption)).symm | exact (fine_few (show 2 ≤ k1 ∧ k1 ≤ 255 from ⟨by omega, by omega⟩) (show szk k1 ≠ 0 by rw [show k1 = 174 by assumption]; decide) (show ¬ (lk2 k1 ≤ (xs.length : Int) ∧ (xs.length : Int) ≤ mk2 k1) by rw [show k1 = 174 by assumption, show lk2 174 = 0 from rfl, show mk2 174 = 3 from rfl]; omega)).symm
              · -- slot 32: (s1.toList == (⟨#[]⟩ : ByteArray).toList) is False
                replace h44 : s1 ≠ (⟨#[]⟩ : ByteArray) := strF h44
                refine X.run 24 [2] [] (.ex .ret) [] ⟨53, [(2, .v (.bool false))], []⟩ (by kernel_rfl) ?_
                refine doneG (.inl rfl) [.bool false] [] (by kernel_rfl) rfl rfl (Ge.refl _ _) ?_
                -- end 46 (FFFFFTF)
                refine ⟨congrArg Value.bool ?_, rfl⟩
                first | exact (fine_raw (show 2 ≤ k1 ∧ k1 ≤ 255 from ⟨by omega, by omega⟩) (show szk k1 ≠ 0 by rw [show k1 = 174 by assumption]; decide) (by assumption)).symm | exact (fine_few (show 2 ≤ k1 ∧ k1 ≤ 255 from ⟨by omega, by omega⟩) (show szk k1 ≠ 0 by rw [show k1 = 174 by assumption]; decide) (show ¬ (lk2 k1 ≤ (xs.length : Int) ∧ (xs.length : Int) ≤ mk2 k1) by rw [show k1 = 174 by assumption, show lk2 174 = 0 from rfl, show mk2 174 = 3 from rfl]; omega)).symm
            · -- slot 10: k1 == 174 is False
              replace h43 : k1 ≠ 174 := by simpa using h43
              refine X.run 12 [2, 3, 4] [1001] (.ex .ret) [] ⟨13, [(2, .v (.int .i64 0)), (3, .v (.int .i64 0)), (4, .v (.int .i64 0))], [(1001, ⟨65, [.v (.int .i64 k1), .v (.slice A xs.length ca), .v (.string s1)]⟩)]⟩ (by kernel_rfl) ?_
              refine fin3 _ _ _ _ [.int .i64 0, .int .i64 0, .int .i64 0] [(1, ⟨65, [.v (.int .i64 k1), .v (.slice A xs.length ca), .v (.string s1)]⟩)] (.inl rfl) (by kernel_rfl) (by kernel_rfl) ?_
              refine X.run 29 [2] [] (.ex .ret) [] ⟨53, [(2, .v (.bool (((xs.length : Nat) : Int) == 0)))], []⟩ (by kernel_rfl) ?_
              refine doneG (.inl rfl) [.bool (((xs.length : Nat) : Int) == 0)] [] (by kernel_rfl) rfl rfl (Ge.refl _ _) ?_
              -- end 48 (FFFFFF)
              refine ⟨congrArg Value.bool ?_, rfl⟩
              rw [fine_free (show 2 ≤ k1 ∧ k1 ≤ 255 from ⟨by omega, by omega⟩) (show szk k1 = 0 by unfold szk; rw [if_neg (by omega), if_neg (by omega), if_neg (by omega)])]
              by_cases h_ : xs.length = 0
              · rw [decide_eq_true h_]; simp [h_]
              · rw [decide_eq_false h_]; simp; exact fun e_ => h_ (by rw [e_]; rfl)
end Go.Proofs.YtjgpdbkkpomhjaaX
