/- leatlaw11.FlagsText -/
import Derived.Test.YtjgpdbkkpomhjaaProg
import Derived.KernelRfl
import Derived.Test.YtjgpdbkkpomhjaaXT3
import Derived.Test.YtjgpdbkkpomhjaaXE7
namespace Go.Proofs.YtjgpdbkkpomhjaaX
open Go.RowKit
set_option linter.unusedVariables false
set_option linter.unusedSimpArgs false
set_option maxRecDepth 100000
theorem cut_size {z : ByteArray} {m : Nat} (n : Nat) (h : m ≤ 60) : (z.extract n m).size ≤ 60 := by
  rw [ByteArray.size_extract]
  omega
theorem text_size (f : Int) : (strOf (textL f)).size ≤ 60 := by
  rw [strOf_size]
  unfold textL
  split
  · decide
  · exact Nat.le_trans (tx_len f 6) (by decide)

/-- leat/leatlaw11.FlagsText -/
noncomputable def B9 : Code := bodyOf Try.f9
set_option maxHeartbeats 1000000 in
theorem FlagsText_ok (f : Int) (z : ByteArray) (hf0 : 0 ≤ f) (hf1 : f ≤ 255) (G : Mem) : CallsG Try.prog 9 [.int .u8 f, .string z] G (fun _ v rows => v = .bool true ∧ rows = []) := by
  refine CallsG.enter Try.func9 rfl rfl ?_
  intro w
  refine X.run 11 [0, 1, 4, 11, 14] [] (.ops (aA B9 [1, 0]) (oA B9 [1, 0] 4 :: lA B9 [1, 0] 5)) [.seq (cA B9 [1, 1])] ⟨59, [(0, .v (.int .u8 f)), (1, .v (.string z)), (4, .v (.bool false)), (11, .v (.string z)), (14, .v (.int .i64 (imin (z.size : Int) 60)))], []⟩ (by kernel_rfl) ?_
  refine X.known 14 (y := .v (.int .i64 (min (z.size : Int) 60))) rfl (congrArg (fun z_ => AV.v (.int .i64 z_)) (by simp only [imin_eq, imax_eq])) ?_
  refine X.cutStr (t := 9) (b := z) (x := .tmp 11) (l := none) (h := (some (.tmp 14))) (lv := none) (hv := (some (.int .i64 (min (z.size : Int) 60)))) 0 ((min (z.size : Int) 60).toNat) (by kernel_rfl) (by kernel_rfl) (by kernel_rfl) (by kernel_rfl) (by kernel_rfl) (by kernel_rfl) (rfl) (⟨_, _, rfl, by omega, rfl⟩) (by first | (omega) | decide) (by first | (omega) | decide) ?_
  refine X.run 6 [0, 1, 4, 17] [] (.ops (aA B9 [1, 1, 0]) (oA B9 [1, 1, 0] 1 :: lA B9 [1, 1, 0] 2)) [.seq (cA B9 [1, 1, 1])] ⟨59, [(0, .v (.int .u8 f)), (1, .v (.string (z.extract 0 ((min (z.size : Int) 60).toNat)))), (4, .v (.bool false)), (17, .v (.string (z.extract 0 ((min (z.size : Int) 60).toNat))))], []⟩ (by kernel_rfl) ?_
  refine X.callG (f := 41) (l := [.v (.string (z.extract 0 ((min (z.size : Int) 60).toNat)))]) [.string (z.extract 0 ((min (z.size : Int) 60).toNat))] 0 (by kernel_rfl) (by kernel_rfl) (by kernel_rfl) (cParse_ok (z.extract 0 ((min (z.size : Int) 60).toNat)) (by exact cut_size _ (by omega)) _) ?_
  rintro v1 G1 rows1 hG1 ⟨rfl, rfl⟩
  refine X.run 10 [0, 4, 5, 6, 22] [] (.ops (aA B9 [1, 1, 1, 0]) (oA B9 [1, 1, 1, 0] 1 :: lA B9 [1, 1, 1, 0] 2)) [.seq (cA B9 [1, 1, 1, 1])] ⟨59, [(0, .v (.int .u8 f)), (4, .v (.bool false)), (5, .v (.int .u8 ((prs (z.extract 0 ((min (z.size : Int) 60).toNat))).1))), (6, .v (.bool ((prs (z.extract 0 ((min (z.size : Int) 60).toNat))).2))), (22, .v (.string (z.extract 0 ((min (z.size : Int) 60).toNat))))], []⟩ (by kernel_rfl) ?_
  refine X.callG (f := 42) (l := [.v (.string (z.extract 0 ((min (z.size : Int) 60).toNat)))]) [.string (z.extract 0 ((min (z.size : Int) 60).toNat))] 0 (by kernel_rfl) (by kernel_rfl) (by kernel_rfl) (rParse_ok (z.extract 0 ((min (z.size : Int) 60).toNat)) (by exact cut_size _ (by omega)) _) ?_
  rintro v2 G2 rows2 hG2 ⟨rfl, rfl⟩
  refine X.run 10 [0, 4, 5, 6, 7, 8, 27] [] (.ops (aA B9 [1, 1, 1, 1, 0]) (oA B9 [1, 1, 1, 1, 0] 1 :: lA B9 [1, 1, 1, 1, 0] 2)) [.seq (cA B9 [1, 1, 1, 1, 1])] ⟨59, [(0, .v (.int .u8 f)), (4, .v (.bool false)), (5, .v (.int .u8 ((prs (z.extract 0 ((min (z.size : Int) 60).toNat))).1))), (6, .v (.bool ((prs (z.extract 0 ((min (z.size : Int) 60).toNat))).2))), (7, .v (.int .u8 ((prs (z.extract 0 ((min (z.size : Int) 60).toNat))).1))), (8, .v (.bool ((prs (z.extract 0 ((min (z.size : Int) 60).toNat))).2))), (27, .v (.int .u8 f))], []⟩ (by kernel_rfl) ?_
  refine X.callG (f := 43) (l := [.v (.int .u8 f)]) [.int .u8 f] 0 (by kernel_rfl) (by kernel_rfl) (by kernel_rfl) (cText_ok f (by omega) (by omega) _) ?_
  rintro v3 G3 rows3 hG3 ⟨rfl, rfl⟩
  refine X.run 0 [0, 4, 5, 6, 7, 8, 28] [] (.ops (aA B9 [1, 1, 1, 1, 0]) (oA B9 [1, 1, 1, 1, 0] 2 :: lA B9 [1, 1, 1, 1, 0] 3)) [.seq (cA B9 [1, 1, 1, 1, 1])] ⟨59, [(0, .v (.int .u8 f)), (4, .v (.bool false)), (5, .v (.int .u8 ((prs (z.extract 0 ((min (z.size : Int) 60).toNat))).1))), (6, .v (.bool ((prs (z.extract 0 ((min (z.size : Int) 60).toNat))).2))), (7, .v (.int .u8 ((prs (z.extract 0 ((min (z.size : Int) 60).toNat))).1))), (8, .v (.bool ((prs (z.extract 0 ((min (z.size : Int) 60).toNat))).2))), (28, .v (.string (strOf (textL f))))], []⟩ (by kernel_rfl) ?_
  refine X.callG (f := 41) (l := [.v (.string (strOf (textL f)))]) [.string (strOf (textL f))] 0 (by kernel_rfl) (by kernel_rfl) (by kernel_rfl) (cParse_ok (strOf (textL f)) (by exact text_size _) _) ?_
  rintro v4 G4 rows4 hG4 ⟨rfl, rfl⟩
  refine X.run 10 [0, 4, 5, 6, 7, 8, 9, 10, 32] [] (.ops (aA B9 [1, 1, 1, 1, 1, 0]) (oA B9 [1, 1, 1, 1, 1, 0] 1 :: lA B9 [1, 1, 1, 1, 1, 0] 2)) [.seq (cA B9 [1, 1, 1, 1, 1, 1])] ⟨59, [(0, .v (.int .u8 f)), (4, .v (.bool false)), (5, .v (.int .u8 ((prs (z.extract 0 ((min (z.size : Int) 60).toNat))).1))), (6, .v (.bool ((prs (z.extract 0 ((min (z.size : Int) 60).toNat))).2))), (7, .v (.int .u8 ((prs (z.extract 0 ((min (z.size : Int) 60).toNat))).1))), (8, .v (.bool ((prs (z.extract 0 ((min (z.size : Int) 60).toNat))).2))), (9, .v (.int .u8 ((prs (strOf (textL f))).1))), (10, .v (.bool ((prs (strOf (textL f))).2))), (32, .v (.int .u8 f))], []⟩ (by kernel_rfl) ?_
  refine X.callG (f := 43) (l := [.v (.int .u8 f)]) [.int .u8 f] 0 (by kernel_rfl) (by kernel_rfl) (by kernel_rfl) (cText_ok f (by omega) (by omega) _) ?_
  rintro v5 G5 rows5 hG5 ⟨rfl, rfl⟩
  refine X.run 1 [0, 4, 5, 6, 7, 8, 9, 10, 33, 34] [] (.ops (aA B9 [1, 1, 1, 1, 1, 0]) (oA B9 [1, 1, 1, 1, 1, 0] 3 :: lA B9 [1, 1, 1, 1, 1, 0] 4)) [.seq (cA B9 [1, 1, 1, 1, 1, 1])] ⟨59, [(0, .v (.int .u8 f)), (4, .v (.bool false)), (5, .v (.int .u8 ((prs (z.extract 0 ((min (z.size : Int) 60).toNat))).1))), (6, .v (.bool ((prs (z.extract 0 ((min (z.size : Int) 60).toNat))).2))), (7, .v (.int .u8 ((prs (z.extract 0 ((min (z.size : Int) 60).toNat))).1))), (8, .v (.bool ((prs (z.extract 0 ((min (z.size : Int) 60).toNat))).2))), (9, .v (.int .u8 ((prs (strOf (textL f))).1))), (10, .v (.bool ((prs (strOf (textL f))).2))), (33, .v (.string (strOf (textL f)))), (34, .v (.int .u8 f))], []⟩ (by kernel_rfl) ?_
  refine X.callG (f := 44) (l := [.v (.int .u8 f)]) [.int .u8 f] 0 (by kernel_rfl) (by kernel_rfl) (by kernel_rfl) (rText_ok f (by omega) (by omega) _) ?_
  rintro v6 G6 rows6 hG6 ⟨rfl, rfl⟩
  refine X.run 2 [0, 4, 5, 6, 7, 8, 9, 10, 37] [] (.ops (aA B9 [1, 1, 1, 1, 1, 0]) (oA B9 [1, 1, 1, 1, 1, 0] 6 :: lA B9 [1, 1, 1, 1, 1, 0] 7)) [.seq (cA B9 [1, 1, 1, 1, 1, 1])] ⟨59, [(0, .v (.int .u8 f)), (4, .v (.bool false)), (5, .v (.int .u8 ((prs (z.extract 0 ((min (z.size : Int) 60).toNat))).1))), (6, .v (.bool ((prs (z.extract 0 ((min (z.size : Int) 60).toNat))).2))), (7, .v (.int .u8 ((prs (z.extract 0 ((min (z.size : Int) 60).toNat))).1))), (8, .v (.bool ((prs (z.extract 0 ((min (z.size : Int) 60).toNat))).2))), (9, .v (.int .u8 ((prs (strOf (textL f))).1))), (10, .v (.bool ((prs (strOf (textL f))).2))), (37, .v (.bool ((strOf (textL f)).toList == (strOf (textL f)).toList)))], []⟩ (by kernel_rfl) ?_
  refine X.isTrue 37 rfl (by simp) ?_
  refine X.run 5 [0, 4, 6, 8, 9, 10, 42] [] (.ops (aA B9 [1, 1, 1, 1, 1, 0]) (oA B9 [1, 1, 1, 1, 1, 0] 11 :: lA B9 [1, 1, 1, 1, 1, 0] 12)) [.seq (cA B9 [1, 1, 1, 1, 1, 1])] ⟨59, [(0, .v (.int .u8 f)), (4, .v (.bool false)), (6, .v (.bool ((prs (z.extract 0 ((min (z.size : Int) 60).toNat))).2))), (8, .v (.bool ((prs (z.extract 0 ((min (z.size : Int) 60).toNat))).2))), (9, .v (.int .u8 ((prs (strOf (textL f))).1))), (10, .v (.bool ((prs (strOf (textL f))).2))), (42, .v (.bool (((prs (z.extract 0 ((min (z.size : Int) 60).toNat))).1) == ((prs (z.extract 0 ((min (z.size : Int) 60).toNat))).1))))], []⟩ (by kernel_rfl) ?_
  refine X.isTrue 42 rfl (by simp) ?_
  refine X.run 5 [0, 4, 9, 10, 47] [] (.ops (aA B9 [1, 1, 1, 1, 1, 0]) (oA B9 [1, 1, 1, 1, 1, 0] 16 :: lA B9 [1, 1, 1, 1, 1, 0] 17)) [.seq (cA B9 [1, 1, 1, 1, 1, 1])] ⟨59, [(0, .v (.int .u8 f)), (4, .v (.bool false)), (9, .v (.int .u8 ((prs (strOf (textL f))).1))), (10, .v (.bool ((prs (strOf (textL f))).2))), (47, .v (.bool (((prs (z.extract 0 ((min (z.size : Int) 60).toNat))).2) == ((prs (z.extract 0 ((min (z.size : Int) 60).toNat))).2))))], []⟩ (by kernel_rfl) ?_
  refine X.isTrue 47 rfl (by simp) ?_
  refine X.run 3 [0, 4, 9, 50] [] (.ops (aA B9 [1, 1, 1, 1, 1, 0]) (oA B9 [1, 1, 1, 1, 1, 0] 19 :: lA B9 [1, 1, 1, 1, 1, 0] 20)) [.seq (cA B9 [1, 1, 1, 1, 1, 1])] ⟨59, [(0, .v (.int .u8 f)), (4, .v (.bool false)), (9, .v (.int .u8 ((prs (strOf (textL f))).1))), (50, .v (.bool ((prs (strOf (textL f))).2)))], []⟩ (by kernel_rfl) ?_
  refine X.isTrue 50 rfl (by rw [prs_text hf0 hf1]) ?_
  refine X.run 6 [4, 56] [] (.ops (aA B9 [1, 1, 1, 1, 1, 0]) (oA B9 [1, 1, 1, 1, 1, 0] 25 :: lA B9 [1, 1, 1, 1, 1, 0] 26)) [.seq (cA B9 [1, 1, 1, 1, 1, 1])] ⟨59, [(4, .v (.bool false)), (56, .v (.bool (((prs (strOf (textL f))).1) == (Int.tmod f 64))))], []⟩ (by kernel_rfl) ?_
  refine X.isTrue 56 rfl (by rw [prs_text hf0 hf1, Int.tmod_eq_emod_of_nonneg hf0]; simp) ?_
  refine X.callG (f := 34) (l := []) [] 0 (by kernel_rfl) (by kernel_rfl) (by kernel_rfl) (works11_ok _) ?_
  rintro v7 G7 rows7 hG7 ⟨rfl, rfl⟩
  refine X.run 5 [4] [] (.ex .ret) [] ⟨59, [(4, .v (.bool true))], []⟩ (by kernel_rfl) ?_
  refine doneG (.inl rfl) [.bool true] [] (by kernel_rfl) rfl rfl (((((((hG1.trans hG2).trans hG3).trans hG4).trans hG5).trans hG6).trans hG7)) ?_
  -- end 1 ()
  exact ⟨rfl, rfl⟩
end Go.Proofs.YtjgpdbkkpomhjaaX
