/- The law SumSums, walked. -/
import Derived.Test.YtjgpdbkkpomhjaaProg
import Derived.KernelRfl
import Derived.Test.YtjgpdbkkpomhjaaXA1
namespace Go.Proofs.YtjgpdbkkpomhjaaX
open Go.RowKit
set_option linter.unusedVariables false
set_option linter.unusedSimpArgs false
set_option maxRecDepth 100000
/-- leat/leatlaw10.SumSums -/
noncomputable def B3 : Code := bodyOf Try.f3
set_option maxHeartbeats 1000000 in
theorem SumSums_ok (A : Option Addr) (c : Nat) (b : List Int) (G : Mem) (hb : rowAt (D.int .u8) G A b) (hle : b.length ≤ c) (hmx : c ≤ maxLen) : CallsG Try.prog 3 [.slice A b.length c] G (fun _ v rows => v = .bool true ∧ rows = []) := by
  refine CallsG.enter Try.func3 rfl rfl ?_
  intro w
  refine X.run 11 [0, 2, 3, 6] [] (.ops (aA B3 [1, 0]) (oA B3 [1, 0] 4 :: lA B3 [1, 0] 5)) [.seq (cA B3 [1, 1])] ⟨26, [(0, .v (.slice A b.length c)), (2, .v (.bool false)), (3, .v (.slice A b.length c)), (6, .v (.int .i64 (imin ((b.length : Nat) : Int) 300)))], []⟩ (by kernel_rfl) ?_
  refine X.known 6 (y := .v (.int .i64 (min ((b.length : Nat) : Int) 300))) rfl (congrArg (fun z_ => AV.v (.int .i64 z_)) (by simp only [imin_eq, imax_eq])) ?_
  have hlo1 : 0 ≤ (min ((b.length : Nat) : Int) 300).toNat := by omega
  have hhi1 : (min ((b.length : Nat) : Int) 300).toNat ≤ b.length := by omega
  refine X.cut (t := 22) (e := 5) (sz := 1) (n := b.length) (c := c) (A := A) (x := .tmp 3) (l := none) (h := (some (.tmp 6))) (lv := none) (hv := (some (.int .i64 (min ((b.length : Nat) : Int) 300)))) 0 ((min ((b.length : Nat) : Int) 300).toNat) (by kernel_rfl) (by kernel_rfl) (by kernel_rfl) (by kernel_rfl) (by kernel_rfl) (by kernel_rfl) (by kernel_rfl) (rfl) (⟨_, _, rfl, by omega, rfl⟩) hlo1 (Nat.le_trans hhi1 hle) ?_
  obtain ⟨A1, hA1⟩ : ∃ A_, cutA A c 0 1 = A_ := ⟨_, rfl⟩
  obtain ⟨ys1, hys1⟩ : ∃ l_, (b.take ((min ((b.length : Nat) : Int) 300).toNat)).drop 0 = l_ := ⟨_, rfl⟩
  have hr1 : rowAt (D.int .u8) G (cutA A c 0 1) ((b.take ((min ((b.length : Nat) : Int) 300).toNat)).drop 0) := rowAt_cut hb hlo1 hhi1 hle
  have hl1 : ((min ((b.length : Nat) : Int) 300).toNat) - 0 = ys1.length := by rw [← hys1, List.length_drop, List.length_take]; omega
  have hc1 : ys1.length ≤ c - 0 := by omega
  have hm1 : c - 0 ≤ maxLen := Nat.le_trans (Nat.sub_le _ _) hmx
  rw [hys1, show cutA A c 0 _ = A1 from hA1] at hr1
  rw [hA1, hl1]
  refine X.run 6 [0, 2, 8] [] (.ops (aA B3 [1, 1, 0]) (oA B3 [1, 1, 0] 1 :: lA B3 [1, 1, 0] 2)) [.seq (cA B3 [1, 1, 1])] ⟨26, [(0, .v (.slice A1 ys1.length (c - 0))), (2, .v (.bool false)), (8, .v (.slice A1 ys1.length (c - 0)))], []⟩ (by kernel_rfl) ?_
  refine X.lit 9 22 1 1 [.slice A1 ys1.length (c - 0)] (by kernel_rfl) (fun g => by kernel_rfl) ?_
  intro A2
  refine X.run 0 [0, 2, 9] [] (.ops (aA B3 [1, 1, 0]) (oA B3 [1, 1, 0] 2 :: lA B3 [1, 1, 0] 3)) [.seq (cA B3 [1, 1, 1])] ⟨26, [(0, .v (.slice A1 ys1.length (c - 0))), (2, .v (.bool false)), (9, .v (.slice A2 1 1))], []⟩ (by kernel_rfl) ?_
  refine X.callV (f := 28) (l := [.v (.slice A2 1 1)]) (Q := fun v_ => v_ = .int .u16 (cks ([ys1]).flatten)) [.slice A2 1 1] (by kernel_rfl) (by kernel_rfl) (by kernel_rfl) (fun G1_ hl_ hr_ => (Sum_ok _ _ [ys1] G1_ (rowLit (hr_ 9 _ rfl) (⟨_, _, rfl, rep_slice hc1 hm1 (hr1.mono hl_), rfl⟩) (by decide)) (by simp) (by rw [List.flatten_cons, List.flatten_nil, List.append_nil]; have := wsum_le (row_bytes hr1) 300 (by omega); omega)).mono (fun _ _ _ _ h_ => h_.1)) ?_
  rintro _ rfl
  refine X.run 1 [0, 2, 10, 11] [] (.ops (aA B3 [1, 1, 0]) (oA B3 [1, 1, 0] 4 :: lA B3 [1, 1, 0] 5)) [.seq (cA B3 [1, 1, 1])] ⟨26, [(0, .v (.slice A1 ys1.length (c - 0))), (2, .v (.bool false)), (10, .v (.int .u16 (cks ([ys1]).flatten))), (11, .v (.slice A1 ys1.length (c - 0)))], []⟩ (by kernel_rfl) ?_
  refine X.callG (f := 29) (l := [.v (.slice A1 ys1.length (c - 0))]) [.slice A1 ys1.length (c - 0)] 0 (by kernel_rfl) (by kernel_rfl) (by kernel_rfl) (SumRef_ok _ _ ys1 _ hr1 hc1 hm1 (by omega)) ?_
  rintro v3 G3 rows3 hG3 ⟨rfl, rfl⟩
  replace hb := hb.mono hG3.le
  replace hr1 := hr1.mono hG3.le
  refine X.run 2 [0, 2, 14] [] (.ops (aA B3 [1, 1, 0]) (oA B3 [1, 1, 0] 7 :: lA B3 [1, 1, 0] 8)) [.seq (cA B3 [1, 1, 1])] ⟨26, [(0, .v (.slice A1 ys1.length (c - 0))), (2, .v (.bool false)), (14, .v (.bool ((cks ([ys1]).flatten) == (cks ys1))))], []⟩ (by kernel_rfl) ?_
  refine X.isTrue 14 rfl (by simp) ?_
  refine X.run 1 [0, 2, 14, 15] [] (.ops (aA B3 [1, 1, 0]) (oA B3 [1, 1, 0] 8 :: lA B3 [1, 1, 0] 9)) [.seq (cA B3 [1, 1, 1])] ⟨26, [(0, .v (.slice A1 ys1.length (c - 0))), (2, .v (.bool false)), (14, .v (.bool true)), (15, .v (.slice A1 ys1.length (c - 0)))], []⟩ (by kernel_rfl) ?_
  refine X.lit 16 22 1 1 [.slice A1 ys1.length (c - 0)] (by kernel_rfl) (fun g => by kernel_rfl) ?_
  intro A4
  refine X.run 0 [0, 2, 14, 16] [] (.ops (aA B3 [1, 1, 0]) (oA B3 [1, 1, 0] 9 :: lA B3 [1, 1, 0] 10)) [.seq (cA B3 [1, 1, 1])] ⟨26, [(0, .v (.slice A1 ys1.length (c - 0))), (2, .v (.bool false)), (14, .v (.bool true)), (16, .v (.slice A4 1 1))], []⟩ (by kernel_rfl) ?_
  refine X.callV (f := 30) (l := [.v (.slice A4 1 1)]) (Q := fun v_ => v_ = .bool (cks ([ys1]).flatten == 0)) [.slice A4 1 1] (by kernel_rfl) (by kernel_rfl) (by kernel_rfl) (fun G1_ hl_ hr_ => (Verify_ok _ _ [ys1] G1_ (rowLit (hr_ 16 _ rfl) (⟨_, _, rfl, rep_slice hc1 hm1 (hr1.mono hl_), rfl⟩) (by decide)) (by simp) (by rw [List.flatten_cons, List.flatten_nil, List.append_nil]; have := wsum_le (row_bytes hr1) 300 (by omega); omega)).mono (fun _ _ _ _ h_ => h_.1)) ?_
  rintro _ rfl
  refine X.run 1 [2, 14, 17, 18] [] (.ops (aA B3 [1, 1, 0]) (oA B3 [1, 1, 0] 11 :: lA B3 [1, 1, 0] 12)) [.seq (cA B3 [1, 1, 1])] ⟨26, [(2, .v (.bool false)), (14, .v (.bool true)), (17, .v (.bool (cks ([ys1]).flatten == 0))), (18, .v (.slice A1 ys1.length (c - 0)))], []⟩ (by kernel_rfl) ?_
  refine X.callG (f := 29) (l := [.v (.slice A1 ys1.length (c - 0))]) [.slice A1 ys1.length (c - 0)] 0 (by kernel_rfl) (by kernel_rfl) (by kernel_rfl) (SumRef_ok _ _ ys1 _ hr1 hc1 hm1 (by omega)) ?_
  rintro v5 G5 rows5 hG5 ⟨rfl, rfl⟩
  replace hb := hb.mono hG5.le
  replace hr1 := hr1.mono hG5.le
  refine X.run 4 [2, 23] [] (.ops (aA B3 [1, 1, 0]) (oA B3 [1, 1, 0] 16 :: lA B3 [1, 1, 0] 17)) [.seq (cA B3 [1, 1, 1])] ⟨26, [(2, .v (.bool false)), (23, .v (.bool ((cks ([ys1]).flatten == 0) == ((cks ys1) == 0))))], []⟩ (by kernel_rfl) ?_
  refine X.isTrue 23 rfl (by simp) ?_
  refine X.callG (f := 31) (l := []) [] 0 (by kernel_rfl) (by kernel_rfl) (by kernel_rfl) (works10_ok _) ?_
  rintro v6 G6 rows6 hG6 ⟨rfl, rfl⟩
  replace hb := hb.mono hG6.le
  replace hr1 := hr1.mono hG6.le
  refine X.run 5 [2] [] (.ex .ret) [] ⟨26, [(2, .v (.bool true))], []⟩ (by kernel_rfl) ?_
  refine doneG (.inl rfl) [.bool true] [] (by kernel_rfl) rfl rfl (((hG3.trans hG5).trans hG6)) ?_
  -- end 1 ()
  exact ⟨rfl, rfl⟩
end Go.Proofs.YtjgpdbkkpomhjaaX
