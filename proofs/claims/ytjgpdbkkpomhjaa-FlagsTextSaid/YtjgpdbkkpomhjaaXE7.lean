/- leatref11.Decode -/
import Derived.Test.YtjgpdbkkpomhjaaProg
import Derived.KernelRfl
import Derived.Test.YtjgpdbkkpomhjaaXE6
namespace Go.Proofs.YtjgpdbkkpomhjaaX
open Go.RowKit
set_option linter.unusedVariables false
set_option linter.unusedSimpArgs false
set_option maxRecDepth 100000
def ref39 (b : List Int) : Value := .agg #[.int .u16 (IntKind.u16.wrap (numB ((b.take 2).drop 0))), .int .u16 (IntKind.u16.wrap (numB ((b.take 4).drop 2))), .int .u32 (numB ((b.take 8).drop 4)), .int .u32 (numB ((b.take 12).drop 8)), .int .u8 (IntKind.u8.wrap (Int.tdiv (b.getD 12 0) 16)), .int .u8 (IntKind.u8.wrap ((IntKind.u8.wrap ((Int.tmod (b.getD 12 0) 2) * 4)) + (IntKind.u8.wrap (Int.tdiv (b.getD 13 0) 64)))), .int .u8 (Int.tmod (b.getD 13 0) 64), .int .u16 (IntKind.u16.wrap (numB ((b.take 16).drop 14))), .int .u16 (IntKind.u16.wrap (numB ((b.take 18).drop 16))), .int .u16 (IntKind.u16.wrap (numB ((b.take 20).drop 18)))]

/-- leat/leatref11.Decode -/
noncomputable def B39 : Code := bodyOf Try.f39
set_option maxHeartbeats 8000000 in
theorem RefDec_ok (A : Option Addr) (c : Nat) (b : List Int) (G : Mem) (hb : rowAt (D.int .u8) G A b) (hle : b.length ≤ c) (hmx : c ≤ maxLen) : CallsG Try.prog 39 [.slice A b.length c] G (fun _ v rows => (b.length < 20 → v = .tuple #[.agg #[.int .u16 0, .int .u16 0, .int .u32 0, .int .u32 0, .int .u8 0, .int .u8 0, .int .u8 0, .int .u16 0, .int .u16 0, .int .u16 0], .int .i64 3]) ∧ (20 ≤ b.length ∧ (IntKind.u8.wrap (Int.tdiv (b.getD 12 0) 16) < 5 ∨ 1 < Int.tmod (b.getD 12 0) 16) → v = .tuple #[.agg #[.int .u16 0, .int .u16 0, .int .u32 0, .int .u32 0, .int .u8 0, .int .u8 0, .int .u8 0, .int .u16 0, .int .u16 0, .int .u16 0], .int .i64 5]) ∧ (20 ≤ b.length ∧ ¬ (IntKind.u8.wrap (Int.tdiv (b.getD 12 0) 16) < 5 ∨ 1 < Int.tmod (b.getD 12 0) 16) → v = .tuple #[ref39 b, .int .i64 0]) ∧ rows = []) := by
  simp only [maxLen] at hmx
  refine CallsG.enter Try.func39 rfl rfl ?_
  intro w
  refine X.run 14 [0, 2, 3, 7] [2] (.code (cA B39 [1, 0, 1])) [.seq (cA B39 [1, 1])] ⟨69, [(0, .v (.slice A b.length c)), (2, .own 2 0), (3, .v (.int .i64 0)), (7, .v (.bool (decide (((b.length : Nat) : Int) < 20))))], [(2, ⟨31, [.v (.int .u16 0), .v (.int .u16 0), .v (.int .u32 0), .v (.int .u32 0), .v (.int .u8 0), .v (.int .u8 0), .v (.int .u8 0), .v (.int .u16 0), .v (.int .u16 0), .v (.int .u16 0)]⟩)]⟩ (by kernel_rfl) ?_
  refine X.split 7 rfl (fun h1 => ?_) (fun h1 => ?_)
  · -- slot 7: decide (((b.length : Nat) : Int) < 20) is True
    replace h1 : ((b.length : Nat) : Int) < 20 := of_decide_eq_true h1
    refine X.run 10 [2, 3] [2] (.ex .ret) [] ⟨69, [(2, .own 2 0), (3, .v (.int .i64 3))], [(2, ⟨31, [.v (.int .u16 0), .v (.int .u16 0), .v (.int .u32 0), .v (.int .u32 0), .v (.int .u8 0), .v (.int .u8 0), .v (.int .u8 0), .v (.int .u16 0), .v (.int .u16 0), .v (.int .u16 0)]⟩)]⟩ (by kernel_rfl) ?_
    refine doneG (.inl rfl) [.agg #[.int .u16 0, .int .u16 0, .int .u32 0, .int .u32 0, .int .u8 0, .int .u8 0, .int .u8 0, .int .u16 0, .int .u16 0, .int .u16 0], .int .i64 3] [] (by kernel_rfl) rfl rfl (Ge.refl _ _) ?_
    -- end 1 (T)
    exact ⟨fun _ => rfl, fun h => absurd h.1 (by omega), fun h => absurd h.1 (by omega), rfl⟩
  · -- slot 7: decide (((b.length : Nat) : Int) < 20) is False
    replace h1 : ¬ (((b.length : Nat) : Int) < 20) := of_decide_eq_false h1
    refine X.run 7 [0, 2, 3, 9] [2] (.ops (aA B39 [1, 1, 0, 0]) (oA B39 [1, 1, 0, 0] 1 :: lA B39 [1, 1, 0, 0] 2)) [.seq (cA B39 [1, 1, 0, 1]), .seq (cA B39 [1, 1, 1])] ⟨69, [(0, .v (.slice A b.length c)), (2, .own 2 0), (3, .v (.int .i64 0)), (9, .v (.slice A b.length c))], [(2, ⟨31, [.v (.int .u16 0), .v (.int .u16 0), .v (.int .u32 0), .v (.int .u32 0), .v (.int .u8 0), .v (.int .u8 0), .v (.int .u8 0), .v (.int .u16 0), .v (.int .u16 0), .v (.int .u16 0)]⟩)]⟩ (by kernel_rfl) ?_
    have b2 : (0 : Int) ≤ 12 := by omega
    have b3 : 12 < ((b.length : Nat) : Int) := by omega
    refine X.index (t := 22) (e := 5) (sz := 1) (A := A) (n := b.length) (c := c) (ki := .i64) (i := 12) (x := .tmp 9) (ix := .const (.int .i64 12)) (by kernel_rfl) (by kernel_rfl) (by kernel_rfl) (by kernel_rfl) (by kernel_rfl) (by kernel_rfl) b2 b3 (fun _ _ => rowAt.so hb (by omega)) ?_
    obtain ⟨at4, lo4, hi4⟩ := At.int [] hb 12 (by omega)
    simp only [IntKind.lo, IntKind.hi] at lo4 hi4
    refine X.run 0 [0, 2, 3, 10] [2] (.ops (aA B39 [1, 1, 0, 0]) (oA B39 [1, 1, 0, 0] 2 :: lA B39 [1, 1, 0, 0] 3)) [.seq (cA B39 [1, 1, 0, 1]), .seq (cA B39 [1, 1, 1])] ⟨69, [(0, .v (.slice A b.length c)), (2, .own 2 0), (3, .v (.int .i64 0)), (10, .v (elt A (12 * 1)))], [(2, ⟨31, [.v (.int .u16 0), .v (.int .u16 0), .v (.int .u32 0), .v (.int .u32 0), .v (.int .u8 0), .v (.int .u8 0), .v (.int .u8 0), .v (.int .u16 0), .v (.int .u16 0), .v (.int .u16 0)]⟩)]⟩ (by kernel_rfl) ?_
    refine X.load (t := 5) (A := A) (j := 12 * 1) (x := .tmp 10) (z := .int .u8 (b.getD 12 0)) [.int .u8 (b.getD 12 0)] (by kernel_rfl) (by kernel_rfl) at4 (by kernel_rfl) (by kernel_rfl) ?_
    refine X.run 3 [0, 2, 3, 14] [2] (.ops (aA B39 [1, 1, 0, 0]) (oA B39 [1, 1, 0, 0] 6 :: lA B39 [1, 1, 0, 0] 7)) [.seq (cA B39 [1, 1, 0, 1]), .seq (cA B39 [1, 1, 1])] ⟨69, [(0, .v (.slice A b.length c)), (2, .own 2 0), (3, .v (.int .i64 0)), (14, .v (.bool (decide (IntKind.u8.wrap (Int.tdiv (b.getD 12 0) 16) < 5))))], [(2, ⟨31, [.v (.int .u16 0), .v (.int .u16 0), .v (.int .u32 0), .v (.int .u32 0), .v (.int .u8 0), .v (.int .u8 0), .v (.int .u8 0), .v (.int .u16 0), .v (.int .u16 0), .v (.int .u16 0)]⟩)]⟩ (by kernel_rfl) ?_
    refine X.split 14 rfl (fun h5 => ?_) (fun h5 => ?_)
    · -- slot 14: decide (IntKind.u8.wrap (Int.tdiv (b.getD 12 0) 16) < 5) is True
      replace h5 : IntKind.u8.wrap (Int.tdiv (b.getD 12 0) 16) < 5 := of_decide_eq_true h5
      refine X.run 18 [2, 3] [2] (.ex .ret) [] ⟨69, [(2, .own 2 0), (3, .v (.int .i64 5))], [(2, ⟨31, [.v (.int .u16 0), .v (.int .u16 0), .v (.int .u32 0), .v (.int .u32 0), .v (.int .u8 0), .v (.int .u8 0), .v (.int .u8 0), .v (.int .u16 0), .v (.int .u16 0), .v (.int .u16 0)]⟩)]⟩ (by kernel_rfl) ?_
      refine doneG (.inl rfl) [.agg #[.int .u16 0, .int .u16 0, .int .u32 0, .int .u32 0, .int .u8 0, .int .u8 0, .int .u8 0, .int .u16 0, .int .u16 0, .int .u16 0], .int .i64 5] [] (by kernel_rfl) rfl rfl (Ge.refl _ _) ?_
      -- end 2 (FT)
      exact ⟨fun h => absurd h (by omega), fun _ => rfl, fun h => False.elim (h.2 (by first | exact .inl (by assumption) | exact .inr (by assumption))), rfl⟩
    · -- slot 14: decide (IntKind.u8.wrap (Int.tdiv (b.getD 12 0) 16) < 5) is False
      replace h5 : ¬ (IntKind.u8.wrap (Int.tdiv (b.getD 12 0) 16) < 5) := of_decide_eq_false h5
      refine X.run 1 [0, 2, 3, 14, 15] [2] (.ops (aA B39 [1, 1, 0, 0]) (oA B39 [1, 1, 0, 0] 7 :: lA B39 [1, 1, 0, 0] 8)) [.seq (cA B39 [1, 1, 0, 1]), .seq (cA B39 [1, 1, 1])] ⟨69, [(0, .v (.slice A b.length c)), (2, .own 2 0), (3, .v (.int .i64 0)), (14, .v (.bool false)), (15, .v (.slice A b.length c))], [(2, ⟨31, [.v (.int .u16 0), .v (.int .u16 0), .v (.int .u32 0), .v (.int .u32 0), .v (.int .u8 0), .v (.int .u8 0), .v (.int .u8 0), .v (.int .u16 0), .v (.int .u16 0), .v (.int .u16 0)]⟩)]⟩ (by kernel_rfl) ?_
      have b6 : (0 : Int) ≤ 12 := by omega
      have b7 : 12 < ((b.length : Nat) : Int) := by omega
      refine X.index (t := 22) (e := 5) (sz := 1) (A := A) (n := b.length) (c := c) (ki := .i64) (i := 12) (x := .tmp 15) (ix := .const (.int .i64 12)) (by kernel_rfl) (by kernel_rfl) (by kernel_rfl) (by kernel_rfl) (by kernel_rfl) (by kernel_rfl) b6 b7 (fun _ _ => rowAt.so hb (by omega)) ?_
      obtain ⟨at8, lo8, hi8⟩ := At.int [] hb 12 (by omega)
      simp only [IntKind.lo, IntKind.hi] at lo8 hi8
      refine X.run 0 [0, 2, 3, 14, 16] [2] (.ops (aA B39 [1, 1, 0, 0]) (oA B39 [1, 1, 0, 0] 8 :: lA B39 [1, 1, 0, 0] 9)) [.seq (cA B39 [1, 1, 0, 1]), .seq (cA B39 [1, 1, 1])] ⟨69, [(0, .v (.slice A b.length c)), (2, .own 2 0), (3, .v (.int .i64 0)), (14, .v (.bool false)), (16, .v (elt A (12 * 1)))], [(2, ⟨31, [.v (.int .u16 0), .v (.int .u16 0), .v (.int .u32 0), .v (.int .u32 0), .v (.int .u8 0), .v (.int .u8 0), .v (.int .u8 0), .v (.int .u16 0), .v (.int .u16 0), .v (.int .u16 0)]⟩)]⟩ (by kernel_rfl) ?_
      refine X.load (t := 5) (A := A) (j := 12 * 1) (x := .tmp 16) (z := .int .u8 (b.getD 12 0)) [.int .u8 (b.getD 12 0)] (by kernel_rfl) (by kernel_rfl) at8 (by kernel_rfl) (by kernel_rfl) ?_
      refine X.run 5 [0, 2, 3, 20] [2] (.code (cA B39 [1, 1, 0, 1])) [.seq (cA B39 [1, 1, 1])] ⟨69, [(0, .v (.slice A b.length c)), (2, .own 2 0), (3, .v (.int .i64 0)), (20, .v (.bool (decide (Int.tmod (b.getD 12 0) 16 > 1))))], [(2, ⟨31, [.v (.int .u16 0), .v (.int .u16 0), .v (.int .u32 0), .v (.int .u32 0), .v (.int .u8 0), .v (.int .u8 0), .v (.int .u8 0), .v (.int .u16 0), .v (.int .u16 0), .v (.int .u16 0)]⟩)]⟩ (by kernel_rfl) ?_
      refine X.split 20 rfl (fun h9 => ?_) (fun h9 => ?_)
      · -- slot 20: decide (Int.tmod (b.getD 12 0) 16 > 1) is True
        replace h9 : Int.tmod (b.getD 12 0) 16 > 1 := of_decide_eq_true h9
        refine X.run 10 [2, 3] [2] (.ex .ret) [] ⟨69, [(2, .own 2 0), (3, .v (.int .i64 5))], [(2, ⟨31, [.v (.int .u16 0), .v (.int .u16 0), .v (.int .u32 0), .v (.int .u32 0), .v (.int .u8 0), .v (.int .u8 0), .v (.int .u8 0), .v (.int .u16 0), .v (.int .u16 0), .v (.int .u16 0)]⟩)]⟩ (by kernel_rfl) ?_
        refine doneG (.inl rfl) [.agg #[.int .u16 0, .int .u16 0, .int .u32 0, .int .u32 0, .int .u8 0, .int .u8 0, .int .u8 0, .int .u16 0, .int .u16 0, .int .u16 0], .int .i64 5] [] (by kernel_rfl) rfl rfl (Ge.refl _ _) ?_
        -- end 3 (FFT)
        exact ⟨fun h => absurd h (by omega), fun _ => rfl, fun h => False.elim (h.2 (by first | exact .inl (by assumption) | exact .inr (by assumption))), rfl⟩
      · -- slot 20: decide (Int.tmod (b.getD 12 0) 16 > 1) is False
        replace h9 : ¬ (Int.tmod (b.getD 12 0) 16 > 1) := of_decide_eq_false h9
        refine X.run 4 [0, 2, 3] [2] (.code (cA B39 [1, 1, 1, 0])) [.seq (cA B39 [1, 1, 1, 1])] ⟨69, [(0, .v (.slice A b.length c)), (2, .own 2 0), (3, .v (.int .i64 0))], [(2, ⟨31, [.v (.int .u16 0), .v (.int .u16 0), .v (.int .u32 0), .v (.int .u32 0), .v (.int .u8 0), .v (.int .u8 0), .v (.int .u8 0), .v (.int .u16 0), .v (.int .u16 0), .v (.int .u16 0)]⟩)]⟩ (by kernel_rfl) ?_
        have hb_d10 := hb
        refine XD.open (id := 5) (arr := aA B39 [1, 1, 1, 0]) 37 [] [] [] (by kernel_rfl) (by kernel_rfl) (by kernel_rfl) (by kernel_rfl) (by kernel_rfl) trivial (by simp) rfl (fun ρ0 => ?_)
        refine XD.take (i := 0) (l' := (lb 37 1)) (oA B39 [1, 1, 1, 0] 0) (.v (.slice A b.length c)) QOk.ctxG (by kernel_rfl) (by kernel_rfl) (by kernel_rfl) (by kernel_rfl) (by kernel_rfl) ?_
        have hlo11 : 0 ≤ 2 := by omega
        have hhi11 : 2 ≤ b.length := by omega
        refine XD.cut (i := 1) (l' := (lb 37 3)) (o := (oA B39 [1, 1, 1, 0] 1)) (t := 22) (e := 5) (sz := 1) (n := b.length) (c := c) (A := A) (x := .tmp 22) (l0 := (some (.const (.int .i64 0)))) (h := (some (.const (.int .i64 2)))) (lv := (some (.int .i64 0))) (hv := (some (.int .i64 2))) 0 2 QOk.ctxG (by kernel_rfl) (by kernel_rfl) (by kernel_rfl) (by kernel_rfl) (by kernel_rfl) (by kernel_rfl) (by kernel_rfl) (by kernel_rfl) (by kernel_rfl) (⟨_, _, rfl, by omega, rfl⟩) (⟨_, _, rfl, by omega, rfl⟩) hlo11 (Nat.le_trans hhi11 hle) (by kernel_rfl) ?_
        obtain ⟨A11, hA11⟩ : ∃ A_, cutA A c 0 1 = A_ := ⟨_, rfl⟩
        obtain ⟨ys11, hys11⟩ : ∃ l_, (b.take 2).drop 0 = l_ := ⟨_, rfl⟩
        have hr11 : rowAt (D.int .u8) G (cutA A c 0 1) ((b.take 2).drop 0) := rowAt_cut hb hlo11 hhi11 hle
        have hl11 : 2 - 0 = ys11.length := by rw [← hys11, List.length_drop, List.length_take]; omega
        have hc11 : ys11.length ≤ c - 0 := by omega
        have hm11 : c - 0 ≤ maxLen := Nat.le_trans (Nat.sub_le _ _) hmx
        rw [hys11, show cutA A c 0 _ = A11 from hA11] at hr11
        rw [hA11, hl11]
        refine XD.take (i := 4) (l' := (lb 37 19)) (oA B39 [1, 1, 1, 0] 4) (.v (.slice A b.length c)) QOk.ctxG (by kernel_rfl) (by kernel_rfl) (by kernel_rfl) (by kernel_rfl) (by kernel_rfl) ?_
        have hlo12 : 2 ≤ 4 := by omega
        have hhi12 : 4 ≤ b.length := by omega
        refine XD.cut (i := 5) (l' := (lb 37 51)) (o := (oA B39 [1, 1, 1, 0] 5)) (t := 22) (e := 5) (sz := 1) (n := b.length) (c := c) (A := A) (x := .tmp 26) (l0 := (some (.const (.int .i64 2)))) (h := (some (.const (.int .i64 4)))) (lv := (some (.int .i64 2))) (hv := (some (.int .i64 4))) 2 4 QOk.ctxG (by kernel_rfl) (by kernel_rfl) (by kernel_rfl) (by kernel_rfl) (by kernel_rfl) (by kernel_rfl) (by kernel_rfl) (by kernel_rfl) (by kernel_rfl) (⟨_, _, rfl, by omega, rfl⟩) (⟨_, _, rfl, by omega, rfl⟩) hlo12 (Nat.le_trans hhi12 hle) (by kernel_rfl) ?_
        obtain ⟨A12, hA12⟩ : ∃ A_, cutA A c 2 1 = A_ := ⟨_, rfl⟩
        obtain ⟨ys12, hys12⟩ : ∃ l_, (b.take 4).drop 2 = l_ := ⟨_, rfl⟩
        have hr12 : rowAt (D.int .u8) G (cutA A c 2 1) ((b.take 4).drop 2) := rowAt_cut hb hlo12 hhi12 hle
        have hl12 : 4 - 2 = ys12.length := by rw [← hys12, List.length_drop, List.length_take]; omega
        have hc12 : ys12.length ≤ c - 2 := by omega
        have hm12 : c - 2 ≤ maxLen := Nat.le_trans (Nat.sub_le _ _) hmx
        rw [hys12, show cutA A c 2 _ = A12 from hA12] at hr12
        rw [hA12, hl12]
        refine XD.take (i := 8) (l' := (lb 37 307)) (oA B39 [1, 1, 1, 0] 8) (.v (.slice A b.length c)) QOk.ctxG (by kernel_rfl) (by kernel_rfl) (by kernel_rfl) (by kernel_rfl) (by kernel_rfl) ?_
        have hlo13 : 4 ≤ 8 := by omega
        have hhi13 : 8 ≤ b.length := by omega
        refine XD.cut (i := 9) (l' := (lb 37 819)) (o := (oA B39 [1, 1, 1, 0] 9)) (t := 22) (e := 5) (sz := 1) (n := b.length) (c := c) (A := A) (x := .tmp 30) (l0 := (some (.const (.int .i64 4)))) (h := (some (.const (.int .i64 8)))) (lv := (some (.int .i64 4))) (hv := (some (.int .i64 8))) 4 8 QOk.ctxG (by kernel_rfl) (by kernel_rfl) (by kernel_rfl) (by kernel_rfl) (by kernel_rfl) (by kernel_rfl) (by kernel_rfl) (by kernel_rfl) (by kernel_rfl) (⟨_, _, rfl, by omega, rfl⟩) (⟨_, _, rfl, by omega, rfl⟩) hlo13 (Nat.le_trans hhi13 hle) (by kernel_rfl) ?_
        obtain ⟨A13, hA13⟩ : ∃ A_, cutA A c 4 1 = A_ := ⟨_, rfl⟩
        obtain ⟨ys13, hys13⟩ : ∃ l_, (b.take 8).drop 4 = l_ := ⟨_, rfl⟩
        have hr13 : rowAt (D.int .u8) G (cutA A c 4 1) ((b.take 8).drop 4) := rowAt_cut hb hlo13 hhi13 hle
        have hl13 : 8 - 4 = ys13.length := by rw [← hys13, List.length_drop, List.length_take]; omega
        have hc13 : ys13.length ≤ c - 4 := by omega
        have hm13 : c - 4 ≤ maxLen := Nat.le_trans (Nat.sub_le _ _) hmx
        rw [hys13, show cutA A c 4 _ = A13 from hA13] at hr13
        rw [hA13, hl13]
        refine XD.take (i := 11) (l' := (lb 37 2867)) (oA B39 [1, 1, 1, 0] 11) (.v (.slice A b.length c)) QOk.ctxG (by kernel_rfl) (by kernel_rfl) (by kernel_rfl) (by kernel_rfl) (by kernel_rfl) ?_
        have hlo14 : 8 ≤ 12 := by omega
        have hhi14 : 12 ≤ b.length := by omega
        refine XD.cut (i := 12) (l' := (lb 37 6963)) (o := (oA B39 [1, 1, 1, 0] 12)) (t := 22) (e := 5) (sz := 1) (n := b.length) (c := c) (A := A) (x := .tmp 33) (l0 := (some (.const (.int .i64 8)))) (h := (some (.const (.int .i64 12)))) (lv := (some (.int .i64 8))) (hv := (some (.int .i64 12))) 8 12 QOk.ctxG (by kernel_rfl) (by kernel_rfl) (by kernel_rfl) (by kernel_rfl) (by kernel_rfl) (by kernel_rfl) (by kernel_rfl) (by kernel_rfl) (by kernel_rfl) (⟨_, _, rfl, by omega, rfl⟩) (⟨_, _, rfl, by omega, rfl⟩) hlo14 (Nat.le_trans hhi14 hle) (by kernel_rfl) ?_
        obtain ⟨A14, hA14⟩ : ∃ A_, cutA A c 8 1 = A_ := ⟨_, rfl⟩
        obtain ⟨ys14, hys14⟩ : ∃ l_, (b.take 12).drop 8 = l_ := ⟨_, rfl⟩
        have hr14 : rowAt (D.int .u8) G (cutA A c 8 1) ((b.take 12).drop 8) := rowAt_cut hb hlo14 hhi14 hle
        have hl14 : 12 - 8 = ys14.length := by rw [← hys14, List.length_drop, List.length_take]; omega
        have hc14 : ys14.length ≤ c - 8 := by omega
        have hm14 : c - 8 ≤ maxLen := Nat.le_trans (Nat.sub_le _ _) hmx
        rw [hys14, show cutA A c 8 _ = A14 from hA14] at hr14
        rw [hA14, hl14]
        refine XD.take (i := 14) (l' := (lb 37 23347)) (oA B39 [1, 1, 1, 0] 14) (.v (.slice A b.length c)) QOk.ctxG (by kernel_rfl) (by kernel_rfl) (by kernel_rfl) (by kernel_rfl) (by kernel_rfl) ?_
        have b15 : (0 : Int) ≤ 12 := by omega
        have b16 : 12 < ((b.length : Nat) : Int) := by omega
        obtain ⟨at17, lo17, hi17⟩ := At.int [] hb_d10 12 (by omega)
        simp only [IntKind.lo, IntKind.hi] at lo17 hi17
        refine XD.index (i := 15) (l' := (lb 37 56115)) (o := (oA B39 [1, 1, 1, 0] 15)) (t := 22) (e := 5) (sz := 1) (A := A) (n := b.length) (c := c) (ki := .i64) (j := 12) (x := .tmp 36) (ix := .const (.int .i64 12)) QOk.ctxG (by kernel_rfl) (by kernel_rfl) (by kernel_rfl) (by kernel_rfl) (by kernel_rfl) (by kernel_rfl) (by kernel_rfl) (by kernel_rfl) b15 b16 (fun _ _ => rowAt.so hb_d10 (by omega)) (by kernel_rfl) ?_
        refine XD.load (i := 16) (l' := (lb 37 121651)) (o := (oA B39 [1, 1, 1, 0] 16)) (t := 5) (A := A) (j := 12 * 1) (x := .tmp 37) (z := .int .u8 (b.getD 12 0)) [.int .u8 (b.getD 12 0)] QOk.ctxG (by kernel_rfl) (by kernel_rfl) (by kernel_rfl) (by kernel_rfl) (by kernel_rfl) at17 (by kernel_rfl) (by kernel_rfl) ?_
        refine XD.take (i := 17) (l' := (lb 37 252723)) (oA B39 [1, 1, 1, 0] 17) (.v (.int .u8 (IntKind.u8.wrap (Int.tdiv (b.getD 12 0) 16)))) QOk.ctxG (by kernel_rfl) (by kernel_rfl) (by kernel_rfl) (by kernel_rfl) (by kernel_rfl) ?_
        refine XD.take (i := 18) (l' := (lb 37 514867)) (oA B39 [1, 1, 1, 0] 18) (.v (.slice A b.length c)) QOk.ctxG (by kernel_rfl) (by kernel_rfl) (by kernel_rfl) (by kernel_rfl) (by kernel_rfl) ?_
        have b18 : (0 : Int) ≤ 13 := by omega
        have b19 : 13 < ((b.length : Nat) : Int) := by omega
        obtain ⟨at20, lo20, hi20⟩ := At.int [] hb_d10 13 (by omega)
        simp only [IntKind.lo, IntKind.hi] at lo20 hi20
        refine XD.index (i := 19) (l' := (lb 37 1039155)) (o := (oA B39 [1, 1, 1, 0] 19)) (t := 22) (e := 5) (sz := 1) (A := A) (n := b.length) (c := c) (ki := .i64) (j := 13) (x := .tmp 40) (ix := .const (.int .i64 13)) QOk.ctxG (by kernel_rfl) (by kernel_rfl) (by kernel_rfl) (by kernel_rfl) (by kernel_rfl) (by kernel_rfl) (by kernel_rfl) (by kernel_rfl) b18 b19 (fun _ _ => rowAt.so hb_d10 (by omega)) (by kernel_rfl) ?_
        refine XD.load (i := 20) (l' := (lb 37 2087731)) (o := (oA B39 [1, 1, 1, 0] 20)) (t := 5) (A := A) (j := 13 * 1) (x := .tmp 41) (z := .int .u8 (b.getD 13 0)) [.int .u8 (b.getD 13 0)] QOk.ctxG (by kernel_rfl) (by kernel_rfl) (by kernel_rfl) (by kernel_rfl) (by kernel_rfl) at20 (by kernel_rfl) (by kernel_rfl) ?_
        refine XD.take (i := 21) (l' := (lb 37 4184883)) (oA B39 [1, 1, 1, 0] 21) (.v (.int .u8 (Int.tmod (b.getD 13 0) 64))) QOk.ctxG (by kernel_rfl) (by kernel_rfl) (by kernel_rfl) (by kernel_rfl) (by kernel_rfl) ?_
        refine XD.take (i := 22) (l' := (lb 37 8379187)) (oA B39 [1, 1, 1, 0] 22) (.v (.slice A b.length c)) QOk.ctxG (by kernel_rfl) (by kernel_rfl) (by kernel_rfl) (by kernel_rfl) (by kernel_rfl) ?_
        have hlo21 : 14 ≤ 16 := by omega
        have hhi21 : 16 ≤ b.length := by omega
        refine XD.cut (i := 23) (l' := (lb 37 16767795)) (o := (oA B39 [1, 1, 1, 0] 23)) (t := 22) (e := 5) (sz := 1) (n := b.length) (c := c) (A := A) (x := .tmp 44) (l0 := (some (.const (.int .i64 14)))) (h := (some (.const (.int .i64 16)))) (lv := (some (.int .i64 14))) (hv := (some (.int .i64 16))) 14 16 QOk.ctxG (by kernel_rfl) (by kernel_rfl) (by kernel_rfl) (by kernel_rfl) (by kernel_rfl) (by kernel_rfl) (by kernel_rfl) (by kernel_rfl) (by kernel_rfl) (⟨_, _, rfl, by omega, rfl⟩) (⟨_, _, rfl, by omega, rfl⟩) hlo21 (Nat.le_trans hhi21 hle) (by kernel_rfl) ?_
        obtain ⟨A21, hA21⟩ : ∃ A_, cutA A c 14 1 = A_ := ⟨_, rfl⟩
        obtain ⟨ys21, hys21⟩ : ∃ l_, (b.take 16).drop 14 = l_ := ⟨_, rfl⟩
        have hr21 : rowAt (D.int .u8) G (cutA A c 14 1) ((b.take 16).drop 14) := rowAt_cut hb hlo21 hhi21 hle
        have hl21 : 16 - 14 = ys21.length := by rw [← hys21, List.length_drop, List.length_take]; omega
        have hc21 : ys21.length ≤ c - 14 := by omega
        have hm21 : c - 14 ≤ maxLen := Nat.le_trans (Nat.sub_le _ _) hmx
        rw [hys21, show cutA A c 14 _ = A21 from hA21] at hr21
        rw [hA21, hl21]
        refine XD.take (i := 26) (l' := (lb 37 83876659)) (oA B39 [1, 1, 1, 0] 26) (.v (.slice A b.length c)) QOk.ctxG (by kernel_rfl) (by kernel_rfl) (by kernel_rfl) (by kernel_rfl) (by kernel_rfl) ?_
        have hlo22 : 16 ≤ 18 := by omega
        have hhi22 : 18 ≤ b.length := by omega
        refine XD.cut (i := 27) (l' := (lb 37 218094387)) (o := (oA B39 [1, 1, 1, 0] 27)) (t := 22) (e := 5) (sz := 1) (n := b.length) (c := c) (A := A) (x := .tmp 48) (l0 := (some (.const (.int .i64 16)))) (h := (some (.const (.int .i64 18)))) (lv := (some (.int .i64 16))) (hv := (some (.int .i64 18))) 16 18 QOk.ctxG (by kernel_rfl) (by kernel_rfl) (by kernel_rfl) (by kernel_rfl) (by kernel_rfl) (by kernel_rfl) (by kernel_rfl) (by kernel_rfl) (by kernel_rfl) (⟨_, _, rfl, by omega, rfl⟩) (⟨_, _, rfl, by omega, rfl⟩) hlo22 (Nat.le_trans hhi22 hle) (by kernel_rfl) ?_
        obtain ⟨A22, hA22⟩ : ∃ A_, cutA A c 16 1 = A_ := ⟨_, rfl⟩
        obtain ⟨ys22, hys22⟩ : ∃ l_, (b.take 18).drop 16 = l_ := ⟨_, rfl⟩
        have hr22 : rowAt (D.int .u8) G (cutA A c 16 1) ((b.take 18).drop 16) := rowAt_cut hb hlo22 hhi22 hle
        have hl22 : 18 - 16 = ys22.length := by rw [← hys22, List.length_drop, List.length_take]; omega
        have hc22 : ys22.length ≤ c - 16 := by omega
        have hm22 : c - 16 ≤ maxLen := Nat.le_trans (Nat.sub_le _ _) hmx
        rw [hys22, show cutA A c 16 _ = A22 from hA22] at hr22
        rw [hA22, hl22]
        refine XD.take (i := 30) (l' := (lb 37 1291836211)) (oA B39 [1, 1, 1, 0] 30) (.v (.slice A b.length c)) QOk.ctxG (by kernel_rfl) (by kernel_rfl) (by kernel_rfl) (by kernel_rfl) (by kernel_rfl) ?_
        have hlo23 : 18 ≤ 20 := by omega
        have hhi23 : 20 ≤ b.length := by omega
        refine XD.cut (i := 31) (l' := (lb 37 3439319859)) (o := (oA B39 [1, 1, 1, 0] 31)) (t := 22) (e := 5) (sz := 1) (n := b.length) (c := c) (A := A) (x := .tmp 52) (l0 := (some (.const (.int .i64 18)))) (h := (some (.const (.int .i64 20)))) (lv := (some (.int .i64 18))) (hv := (some (.int .i64 20))) 18 20 QOk.ctxG (by kernel_rfl) (by kernel_rfl) (by kernel_rfl) (by kernel_rfl) (by kernel_rfl) (by kernel_rfl) (by kernel_rfl) (by kernel_rfl) (by kernel_rfl) (⟨_, _, rfl, by omega, rfl⟩) (⟨_, _, rfl, by omega, rfl⟩) hlo23 (Nat.le_trans hhi23 hle) (by kernel_rfl) ?_
        obtain ⟨A23, hA23⟩ : ∃ A_, cutA A c 18 1 = A_ := ⟨_, rfl⟩
        obtain ⟨ys23, hys23⟩ : ∃ l_, (b.take 20).drop 18 = l_ := ⟨_, rfl⟩
        have hr23 : rowAt (D.int .u8) G (cutA A c 18 1) ((b.take 20).drop 18) := rowAt_cut hb hlo23 hhi23 hle
        have hl23 : 20 - 18 = ys23.length := by rw [← hys23, List.length_drop, List.length_take]; omega
        have hc23 : ys23.length ≤ c - 18 := by omega
        have hm23 : c - 18 ≤ maxLen := Nat.le_trans (Nat.sub_le _ _) hmx
        rw [hys23, show cutA A c 18 _ = A23 from hA23] at hr23
        rw [hA23, hl23]
        refine XD.norm [0, 2, 3, 23, 27, 31, 34, 39, 43, 45, 49, 53] [2] ⟨69, [(0, .v (.slice A b.length c)), (2, .own 2 0), (3, .v (.int .i64 0)), (23, .v (.slice A11 ys11.length (c - 0))), (27, .v (.slice A12 ys12.length (c - 2))), (31, .v (.slice A13 ys13.length (c - 4))), (34, .v (.slice A14 ys14.length (c - 8))), (39, .v (.int .u8 (IntKind.u8.wrap (Int.tdiv (b.getD 12 0) 16)))), (43, .v (.int .u8 (Int.tmod (b.getD 13 0) 64))), (45, .v (.slice A21 ys21.length (c - 14))), (49, .v (.slice A22 ys22.length (c - 16))), (53, .v (.slice A23 ys23.length (c - 18)))], [(2, ⟨31, [.v (.int .u16 0), .v (.int .u16 0), .v (.int .u32 0), .v (.int .u32 0), .v (.int .u8 0), .v (.int .u8 0), .v (.int .u8 0), .v (.int .u16 0), .v (.int .u16 0), .v (.int .u16 0)]⟩)]⟩ (by kernel_rfl) trivial ?_
        refine XD.two (i := 2) (j := 35) (li := (lb 37 3439319863)) (lj := (lb 37 37799058227)) (oA B39 [1, 1, 1, 0] 2) (oA B39 [1, 1, 1, 0] 35) (by kernel_rfl) (by kernel_rfl) (by kernel_rfl) (by kernel_rfl) (by kernel_rfl) ?_ ?_
        · -- 2 first
          refine X.callG (f := 101) (l := [.v (.slice A11 ys11.length (c - 0))]) [.slice A11 ys11.length (c - 0)] 0 (by kernel_rfl) (by kernel_rfl) (by kernel_rfl) (num_ok _ _ ys11 _ hr11 hc11 hm11 (by omega)) ?_
          rintro v24 G24 rows24 hG24 ⟨rfl, rfl⟩
          replace hb := hb.mono hG24.le
          replace hr11 := hr11.mono hG24.le
          replace hr12 := hr12.mono hG24.le
          replace hr13 := hr13.mono hG24.le
          replace hr14 := hr14.mono hG24.le
          replace hr21 := hr21.mono hG24.le
          replace hr22 := hr22.mono hG24.le
          replace hr23 := hr23.mono hG24.le
          refine X.back ⟨trivial, hG24.le, rfl, ?_⟩
          refine XD.take (i := 3) (l' := (lb 37 3439319871)) (oA B39 [1, 1, 1, 0] 3) (.v (.int .u16 (IntKind.u16.wrap (numB ys11)))) QOk.ctxG (by kernel_rfl) (by kernel_rfl) (by kernel_rfl) (by kernel_rfl) (by kernel_rfl) ?_
          refine XD.norm [0, 2, 3, 25, 27, 31, 34, 39, 43, 45, 49, 53] [2] ⟨69, [(0, .v (.slice A b.length c)), (2, .own 2 0), (3, .v (.int .i64 0)), (25, .v (.int .u16 (IntKind.u16.wrap (numB ys11)))), (27, .v (.slice A12 ys12.length (c - 2))), (31, .v (.slice A13 ys13.length (c - 4))), (34, .v (.slice A14 ys14.length (c - 8))), (39, .v (.int .u8 (IntKind.u8.wrap (Int.tdiv (b.getD 12 0) 16)))), (43, .v (.int .u8 (Int.tmod (b.getD 13 0) 64))), (45, .v (.slice A21 ys21.length (c - 14))), (49, .v (.slice A22 ys22.length (c - 16))), (53, .v (.slice A23 ys23.length (c - 18)))], [(2, ⟨31, [.v (.int .u16 0), .v (.int .u16 0), .v (.int .u32 0), .v (.int .u32 0), .v (.int .u8 0), .v (.int .u8 0), .v (.int .u8 0), .v (.int .u16 0), .v (.int .u16 0), .v (.int .u16 0)]⟩)]⟩ (by kernel_rfl) trivial ?_
          refine XD.two (i := 6) (j := 35) (li := (lb 37 3439319935)) (lj := (lb 37 37799058239)) (oA B39 [1, 1, 1, 0] 6) (oA B39 [1, 1, 1, 0] 35) (by kernel_rfl) (by kernel_rfl) (by kernel_rfl) (by kernel_rfl) (by kernel_rfl) ?_ ?_
          · -- 6 first
            refine X.callG (f := 101) (l := [.v (.slice A12 ys12.length (c - 2))]) [.slice A12 ys12.length (c - 2)] 0 (by kernel_rfl) (by kernel_rfl) (by kernel_rfl) (num_ok _ _ ys12 _ hr12 hc12 hm12 (by omega)) ?_
            rintro v25 G25 rows25 hG25 ⟨rfl, rfl⟩
            replace hb := hb.mono hG25.le
            replace hr11 := hr11.mono hG25.le
            replace hr12 := hr12.mono hG25.le
            replace hr13 := hr13.mono hG25.le
            replace hr14 := hr14.mono hG25.le
            replace hr21 := hr21.mono hG25.le
            replace hr22 := hr22.mono hG25.le
            replace hr23 := hr23.mono hG25.le
            refine X.back ⟨trivial, (hG24.trans hG25).le, rfl, ?_⟩
            refine XD.take (i := 7) (l' := (lb 37 3439320063)) (oA B39 [1, 1, 1, 0] 7) (.v (.int .u16 (IntKind.u16.wrap (numB ys12)))) QOk.ctxG (by kernel_rfl) (by kernel_rfl) (by kernel_rfl) (by kernel_rfl) (by kernel_rfl) ?_
            refine XD.norm [0, 2, 3, 25, 29, 31, 34, 39, 43, 45, 49, 53] [2] ⟨69, [(0, .v (.slice A b.length c)), (2, .own 2 0), (3, .v (.int .i64 0)), (25, .v (.int .u16 (IntKind.u16.wrap (numB ys11)))), (29, .v (.int .u16 (IntKind.u16.wrap (numB ys12)))), (31, .v (.slice A13 ys13.length (c - 4))), (34, .v (.slice A14 ys14.length (c - 8))), (39, .v (.int .u8 (IntKind.u8.wrap (Int.tdiv (b.getD 12 0) 16)))), (43, .v (.int .u8 (Int.tmod (b.getD 13 0) 64))), (45, .v (.slice A21 ys21.length (c - 14))), (49, .v (.slice A22 ys22.length (c - 16))), (53, .v (.slice A23 ys23.length (c - 18)))], [(2, ⟨31, [.v (.int .u16 0), .v (.int .u16 0), .v (.int .u32 0), .v (.int .u32 0), .v (.int .u8 0), .v (.int .u8 0), .v (.int .u8 0), .v (.int .u16 0), .v (.int .u16 0), .v (.int .u16 0)]⟩)]⟩ (by kernel_rfl) trivial ?_
            refine XD.two (i := 10) (j := 35) (li := (lb 37 3439321087)) (lj := (lb 37 37799058431)) (oA B39 [1, 1, 1, 0] 10) (oA B39 [1, 1, 1, 0] 35) (by kernel_rfl) (by kernel_rfl) (by kernel_rfl) (by kernel_rfl) (by kernel_rfl) ?_ ?_
            · -- 10 first
              refine X.callG (f := 101) (l := [.v (.slice A13 ys13.length (c - 4))]) [.slice A13 ys13.length (c - 4)] 0 (by kernel_rfl) (by kernel_rfl) (by kernel_rfl) (num_ok _ _ ys13 _ hr13 hc13 hm13 (by omega)) ?_
              rintro v26 G26 rows26 hG26 ⟨rfl, rfl⟩
              replace hb := hb.mono hG26.le
              replace hr11 := hr11.mono hG26.le
              replace hr12 := hr12.mono hG26.le
              replace hr13 := hr13.mono hG26.le
              replace hr14 := hr14.mono hG26.le
              replace hr21 := hr21.mono hG26.le
              replace hr22 := hr22.mono hG26.le
              replace hr23 := hr23.mono hG26.le
              refine X.back ⟨trivial, ((hG24.trans hG25).trans hG26).le, rfl, ?_⟩
              refine XD.norm [0, 2, 3, 25, 29, 32, 34, 39, 43, 45, 49, 53] [2] ⟨69, [(0, .v (.slice A b.length c)), (2, .own 2 0), (3, .v (.int .i64 0)), (25, .v (.int .u16 (IntKind.u16.wrap (numB ys11)))), (29, .v (.int .u16 (IntKind.u16.wrap (numB ys12)))), (32, .v (.int .u32 (numB ys13))), (34, .v (.slice A14 ys14.length (c - 8))), (39, .v (.int .u8 (IntKind.u8.wrap (Int.tdiv (b.getD 12 0) 16)))), (43, .v (.int .u8 (Int.tmod (b.getD 13 0) 64))), (45, .v (.slice A21 ys21.length (c - 14))), (49, .v (.slice A22 ys22.length (c - 16))), (53, .v (.slice A23 ys23.length (c - 18)))], [(2, ⟨31, [.v (.int .u16 0), .v (.int .u16 0), .v (.int .u32 0), .v (.int .u32 0), .v (.int .u8 0), .v (.int .u8 0), .v (.int .u8 0), .v (.int .u16 0), .v (.int .u16 0), .v (.int .u16 0)]⟩)]⟩ (by kernel_rfl) trivial ?_
              refine XD.two (i := 13) (j := 35) (li := (lb 37 3439329279)) (lj := (lb 37 37799059455)) (oA B39 [1, 1, 1, 0] 13) (oA B39 [1, 1, 1, 0] 35) (by kernel_rfl) (by kernel_rfl) (by kernel_rfl) (by kernel_rfl) (by kernel_rfl) ?_ ?_
              · -- 13 first
                refine X.callG (f := 101) (l := [.v (.slice A14 ys14.length (c - 8))]) [.slice A14 ys14.length (c - 8)] 0 (by kernel_rfl) (by kernel_rfl) (by kernel_rfl) (num_ok _ _ ys14 _ hr14 hc14 hm14 (by omega)) ?_
                rintro v27 G27 rows27 hG27 ⟨rfl, rfl⟩
                replace hb := hb.mono hG27.le
                replace hr11 := hr11.mono hG27.le
                replace hr12 := hr12.mono hG27.le
                replace hr13 := hr13.mono hG27.le
                replace hr14 := hr14.mono hG27.le
                replace hr21 := hr21.mono hG27.le
                replace hr22 := hr22.mono hG27.le
                replace hr23 := hr23.mono hG27.le
                refine X.back ⟨trivial, (((hG24.trans hG25).trans hG26).trans hG27).le, rfl, ?_⟩
                refine XD.norm [0, 2, 3, 25, 29, 32, 35, 39, 43, 45, 49, 53] [2] ⟨69, [(0, .v (.slice A b.length c)), (2, .own 2 0), (3, .v (.int .i64 0)), (25, .v (.int .u16 (IntKind.u16.wrap (numB ys11)))), (29, .v (.int .u16 (IntKind.u16.wrap (numB ys12)))), (32, .v (.int .u32 (numB ys13))), (35, .v (.int .u32 (numB ys14))), (39, .v (.int .u8 (IntKind.u8.wrap (Int.tdiv (b.getD 12 0) 16)))), (43, .v (.int .u8 (Int.tmod (b.getD 13 0) 64))), (45, .v (.slice A21 ys21.length (c - 14))), (49, .v (.slice A22 ys22.length (c - 16))), (53, .v (.slice A23 ys23.length (c - 18)))], [(2, ⟨31, [.v (.int .u16 0), .v (.int .u16 0), .v (.int .u32 0), .v (.int .u32 0), .v (.int .u8 0), .v (.int .u8 0), .v (.int .u8 0), .v (.int .u16 0), .v (.int .u16 0), .v (.int .u16 0)]⟩)]⟩ (by kernel_rfl) trivial ?_
                refine XD.two (i := 24) (j := 35) (li := (lb 37 3456106495)) (lj := (lb 37 37799067647)) (oA B39 [1, 1, 1, 0] 24) (oA B39 [1, 1, 1, 0] 35) (by kernel_rfl) (by kernel_rfl) (by kernel_rfl) (by kernel_rfl) (by kernel_rfl) ?_ ?_
                · -- 24 first
                  refine X.callG (f := 101) (l := [.v (.slice A21 ys21.length (c - 14))]) [.slice A21 ys21.length (c - 14)] 0 (by kernel_rfl) (by kernel_rfl) (by kernel_rfl) (num_ok _ _ ys21 _ hr21 hc21 hm21 (by omega)) ?_
                  rintro v28 G28 rows28 hG28 ⟨rfl, rfl⟩
                  replace hb := hb.mono hG28.le
                  replace hr11 := hr11.mono hG28.le
                  replace hr12 := hr12.mono hG28.le
                  replace hr13 := hr13.mono hG28.le
                  replace hr14 := hr14.mono hG28.le
                  replace hr21 := hr21.mono hG28.le
                  replace hr22 := hr22.mono hG28.le
                  replace hr23 := hr23.mono hG28.le
                  refine X.back ⟨trivial, ((((hG24.trans hG25).trans hG26).trans hG27).trans hG28).le, rfl, ?_⟩
                  refine XD.take (i := 25) (l' := (lb 37 3489660927)) (oA B39 [1, 1, 1, 0] 25) (.v (.int .u16 (IntKind.u16.wrap (numB ys21)))) QOk.ctxG (by kernel_rfl) (by kernel_rfl) (by kernel_rfl) (by kernel_rfl) (by kernel_rfl) ?_
                  refine XD.norm [0, 2, 3, 25, 29, 32, 35, 39, 43, 47, 49, 53] [2] ⟨69, [(0, .v (.slice A b.length c)), (2, .own 2 0), (3, .v (.int .i64 0)), (25, .v (.int .u16 (IntKind.u16.wrap (numB ys11)))), (29, .v (.int .u16 (IntKind.u16.wrap (numB ys12)))), (32, .v (.int .u32 (numB ys13))), (35, .v (.int .u32 (numB ys14))), (39, .v (.int .u8 (IntKind.u8.wrap (Int.tdiv (b.getD 12 0) 16)))), (43, .v (.int .u8 (Int.tmod (b.getD 13 0) 64))), (47, .v (.int .u16 (IntKind.u16.wrap (numB ys21)))), (49, .v (.slice A22 ys22.length (c - 16))), (53, .v (.slice A23 ys23.length (c - 18)))], [(2, ⟨31, [.v (.int .u16 0), .v (.int .u16 0), .v (.int .u32 0), .v (.int .u32 0), .v (.int .u8 0), .v (.int .u8 0), .v (.int .u8 0), .v (.int .u16 0), .v (.int .u16 0), .v (.int .u16 0)]⟩)]⟩ (by kernel_rfl) trivial ?_
                  refine XD.two (i := 28) (j := 35) (li := (lb 37 3758096383)) (lj := (lb 37 37849399295)) (oA B39 [1, 1, 1, 0] 28) (oA B39 [1, 1, 1, 0] 35) (by kernel_rfl) (by kernel_rfl) (by kernel_rfl) (by kernel_rfl) (by kernel_rfl) ?_ ?_
                  · -- 28 first
                    refine X.callG (f := 101) (l := [.v (.slice A22 ys22.length (c - 16))]) [.slice A22 ys22.length (c - 16)] 0 (by kernel_rfl) (by kernel_rfl) (by kernel_rfl) (num_ok _ _ ys22 _ hr22 hc22 hm22 (by omega)) ?_
                    rintro v29 G29 rows29 hG29 ⟨rfl, rfl⟩
                    replace hb := hb.mono hG29.le
                    replace hr11 := hr11.mono hG29.le
                    replace hr12 := hr12.mono hG29.le
                    replace hr13 := hr13.mono hG29.le
                    replace hr14 := hr14.mono hG29.le
                    replace hr21 := hr21.mono hG29.le
                    replace hr22 := hr22.mono hG29.le
                    replace hr23 := hr23.mono hG29.le
                    refine X.back ⟨trivial, (((((hG24.trans hG25).trans hG26).trans hG27).trans hG28).trans hG29).le, rfl, ?_⟩
                    refine XD.take (i := 29) (l' := (lb 37 4294967295)) (oA B39 [1, 1, 1, 0] 29) (.v (.int .u16 (IntKind.u16.wrap (numB ys22)))) QOk.ctxG (by kernel_rfl) (by kernel_rfl) (by kernel_rfl) (by kernel_rfl) (by kernel_rfl) ?_
                    refine XD.norm [0, 2, 3, 25, 29, 32, 35, 39, 43, 47, 51, 53] [2] ⟨69, [(0, .v (.slice A b.length c)), (2, .own 2 0), (3, .v (.int .i64 0)), (25, .v (.int .u16 (IntKind.u16.wrap (numB ys11)))), (29, .v (.int .u16 (IntKind.u16.wrap (numB ys12)))), (32, .v (.int .u32 (numB ys13))), (35, .v (.int .u32 (numB ys14))), (39, .v (.int .u8 (IntKind.u8.wrap (Int.tdiv (b.getD 12 0) 16)))), (43, .v (.int .u8 (Int.tmod (b.getD 13 0) 64))), (47, .v (.int .u16 (IntKind.u16.wrap (numB ys21)))), (51, .v (.int .u16 (IntKind.u16.wrap (numB ys22)))), (53, .v (.slice A23 ys23.length (c - 18)))], [(2, ⟨31, [.v (.int .u16 0), .v (.int .u16 0), .v (.int .u32 0), .v (.int .u32 0), .v (.int .u8 0), .v (.int .u8 0), .v (.int .u8 0), .v (.int .u16 0), .v (.int .u16 0), .v (.int .u16 0)]⟩)]⟩ (by kernel_rfl) trivial ?_
                    refine XD.two (i := 32) (j := 35) (li := (lb 37 8589934591)) (lj := (lb 37 38654705663)) (oA B39 [1, 1, 1, 0] 32) (oA B39 [1, 1, 1, 0] 35) (by kernel_rfl) (by kernel_rfl) (by kernel_rfl) (by kernel_rfl) (by kernel_rfl) ?_ ?_
                    · -- 32 first
                      refine X.callG (f := 101) (l := [.v (.slice A23 ys23.length (c - 18))]) [.slice A23 ys23.length (c - 18)] 0 (by kernel_rfl) (by kernel_rfl) (by kernel_rfl) (num_ok _ _ ys23 _ hr23 hc23 hm23 (by omega)) ?_
                      rintro v30 G30 rows30 hG30 ⟨rfl, rfl⟩
                      replace hb := hb.mono hG30.le
                      replace hr11 := hr11.mono hG30.le
                      replace hr12 := hr12.mono hG30.le
                      replace hr13 := hr13.mono hG30.le
                      replace hr14 := hr14.mono hG30.le
                      replace hr21 := hr21.mono hG30.le
                      replace hr22 := hr22.mono hG30.le
                      replace hr23 := hr23.mono hG30.le
                      refine X.back ⟨trivial, ((((((hG24.trans hG25).trans hG26).trans hG27).trans hG28).trans hG29).trans hG30).le, rfl, ?_⟩
                      refine XD.take (i := 33) (l' := (lb 37 17179869183)) (oA B39 [1, 1, 1, 0] 33) (.v (.int .u16 (IntKind.u16.wrap (numB ys23)))) QOk.ctxG (by kernel_rfl) (by kernel_rfl) (by kernel_rfl) (by kernel_rfl) (by kernel_rfl) ?_
                      refine XD.take (i := 34) (l' := (lb 37 34359738367)) (oA B39 [1, 1, 1, 0] 34) (.v (.agg #[.int .u16 (IntKind.u16.wrap (numB ys11)), .int .u16 (IntKind.u16.wrap (numB ys12)), .int .u32 (numB ys13), .int .u32 (numB ys14), .int .u8 (IntKind.u8.wrap (Int.tdiv (b.getD 12 0) 16)), .int .u8 0, .int .u8 (Int.tmod (b.getD 13 0) 64), .int .u16 (IntKind.u16.wrap (numB ys21)), .int .u16 (IntKind.u16.wrap (numB ys22)), .int .u16 (IntKind.u16.wrap (numB ys23))])) QOk.ctxG (by kernel_rfl) (by kernel_rfl) (by kernel_rfl) (by kernel_rfl) (by kernel_rfl) ?_
                      refine XD.norm [0, 2, 3, 56] [2] ⟨69, [(0, .v (.slice A b.length c)), (2, .own 2 0), (3, .v (.int .i64 0)), (56, .v (.agg #[.int .u16 (IntKind.u16.wrap (numB ys11)), .int .u16 (IntKind.u16.wrap (numB ys12)), .int .u32 (numB ys13), .int .u32 (numB ys14), .int .u8 (IntKind.u8.wrap (Int.tdiv (b.getD 12 0) 16)), .int .u8 0, .int .u8 (Int.tmod (b.getD 13 0) 64), .int .u16 (IntKind.u16.wrap (numB ys21)), .int .u16 (IntKind.u16.wrap (numB ys22)), .int .u16 (IntKind.u16.wrap (numB ys23))]))], [(2, ⟨31, [.v (.int .u16 0), .v (.int .u16 0), .v (.int .u32 0), .v (.int .u32 0), .v (.int .u8 0), .v (.int .u8 0), .v (.int .u8 0), .v (.int .u16 0), .v (.int .u16 0), .v (.int .u16 0)]⟩)]⟩ (by kernel_rfl) trivial ?_
                      refine XD.one (i := 35) (l' := (lb 37 68719476735)) (oA B39 [1, 1, 1, 0] 35) (by kernel_rfl) (by kernel_rfl) (by kernel_rfl) ?_
                      refine X.simple (by kernel_rfl) ?_
                      refine X.back ⟨trivial, ((((((hG24.trans hG25).trans hG26).trans hG27).trans hG28).trans hG29).trans hG30).le, rfl, ?_⟩
                      refine XD.norm [0, 2, 3, 4, 56] [2, 4] ⟨69, [(0, .v (.slice A b.length c)), (2, .own 2 0), (3, .v (.int .i64 0)), (4, .own 4 0), (56, .v (.agg #[.int .u16 (IntKind.u16.wrap (numB ys11)), .int .u16 (IntKind.u16.wrap (numB ys12)), .int .u32 (numB ys13), .int .u32 (numB ys14), .int .u8 (IntKind.u8.wrap (Int.tdiv (b.getD 12 0) 16)), .int .u8 0, .int .u8 (Int.tmod (b.getD 13 0) 64), .int .u16 (IntKind.u16.wrap (numB ys21)), .int .u16 (IntKind.u16.wrap (numB ys22)), .int .u16 (IntKind.u16.wrap (numB ys23))]))], [(2, ⟨31, [.v (.int .u16 0), .v (.int .u16 0), .v (.int .u32 0), .v (.int .u32 0), .v (.int .u8 0), .v (.int .u8 0), .v (.int .u8 0), .v (.int .u16 0), .v (.int .u16 0), .v (.int .u16 0)]⟩), (4, ⟨31, [.v (.int .u16 0), .v (.int .u16 0), .v (.int .u32 0), .v (.int .u32 0), .v (.int .u8 0), .v (.int .u8 0), .v (.int .u8 0), .v (.int .u16 0), .v (.int .u16 0), .v (.int .u16 0)]⟩)]⟩ (by kernel_rfl) trivial ?_
                      refine XD.one (i := 36) (l' := (lb 37 137438953471)) (oA B39 [1, 1, 1, 0] 36) (by kernel_rfl) (by kernel_rfl) (by kernel_rfl) ?_
                      refine X.simple (by kernel_rfl) ?_
                      refine X.back ⟨trivial, ((((((hG24.trans hG25).trans hG26).trans hG27).trans hG28).trans hG29).trans hG30).le, rfl, ?_⟩
                      refine XD.done (by kernel_rfl) ?_
                      refine X.run 2 [0, 2, 3, 4] [2, 4] (.code (cA B39 [1, 1, 1, 1, 0])) [.seq (cA B39 [1, 1, 1, 1, 1])] ⟨69, [(0, .v (.slice A b.length c)), (2, .own 2 0), (3, .v (.int .i64 0)), (4, .own 4 0)], [(2, ⟨31, [.v (.int .u16 0), .v (.int .u16 0), .v (.int .u32 0), .v (.int .u32 0), .v (.int .u8 0), .v (.int .u8 0), .v (.int .u8 0), .v (.int .u16 0), .v (.int .u16 0), .v (.int .u16 0)]⟩), (4, ⟨31, [.v (.int .u16 (IntKind.u16.wrap (numB ys11))), .v (.int .u16 (IntKind.u16.wrap (numB ys12))), .v (.int .u32 (numB ys13)), .v (.int .u32 (numB ys14)), .v (.int .u8 (IntKind.u8.wrap (Int.tdiv (b.getD 12 0) 16))), .v (.int .u8 0), .v (.int .u8 (Int.tmod (b.getD 13 0) 64)), .v (.int .u16 (IntKind.u16.wrap (numB ys21))), .v (.int .u16 (IntKind.u16.wrap (numB ys22))), .v (.int .u16 (IntKind.u16.wrap (numB ys23)))]⟩)]⟩ (by kernel_rfl) ?_
                      have hb_d31 := hb
                      have hr11_d31 := hr11
                      have hr12_d31 := hr12
                      have hr13_d31 := hr13
                      have hr14_d31 := hr14
                      have hr21_d31 := hr21
                      have hr22_d31 := hr22
                      have hr23_d31 := hr23
                      refine XD.open (id := 6) (arr := aA B39 [1, 1, 1, 1, 0]) 12 [] [] [] (by kernel_rfl) (by kernel_rfl) (by kernel_rfl) (by kernel_rfl) (by kernel_rfl) trivial (by simp) rfl (fun ρ0 => ?_)
                      refine XD.take (i := 0) (l' := (lb 12 1)) (oA B39 [1, 1, 1, 1, 0] 0) (.v (.slice A b.length c)) QOk.ctxG (by kernel_rfl) (by kernel_rfl) (by kernel_rfl) (by kernel_rfl) (by kernel_rfl) ?_
                      have b32 : (0 : Int) ≤ 12 := by omega
                      have b33 : 12 < ((b.length : Nat) : Int) := by omega
                      obtain ⟨at34, lo34, hi34⟩ := At.int [] hb_d31 12 (by omega)
                      simp only [IntKind.lo, IntKind.hi] at lo34 hi34
                      refine XD.index (i := 1) (l' := (lb 12 3)) (o := (oA B39 [1, 1, 1, 1, 0] 1)) (t := 22) (e := 5) (sz := 1) (A := A) (n := b.length) (c := c) (ki := .i64) (j := 12) (x := .tmp 57) (ix := .const (.int .i64 12)) QOk.ctxG (by kernel_rfl) (by kernel_rfl) (by kernel_rfl) (by kernel_rfl) (by kernel_rfl) (by kernel_rfl) (by kernel_rfl) (by kernel_rfl) b32 b33 (fun _ _ => rowAt.so hb_d31 (by omega)) (by kernel_rfl) ?_
                      refine XD.load (i := 2) (l' := (lb 12 7)) (o := (oA B39 [1, 1, 1, 1, 0] 2)) (t := 5) (A := A) (j := 12 * 1) (x := .tmp 58) (z := .int .u8 (b.getD 12 0)) [.int .u8 (b.getD 12 0)] QOk.ctxG (by kernel_rfl) (by kernel_rfl) (by kernel_rfl) (by kernel_rfl) (by kernel_rfl) at34 (by kernel_rfl) (by kernel_rfl) ?_
                      refine XD.take (i := 3) (l' := (lb 12 15)) (oA B39 [1, 1, 1, 1, 0] 3) (.v (.int .u8 (Int.tmod (b.getD 12 0) 2))) QOk.ctxG (by kernel_rfl) (by kernel_rfl) (by kernel_rfl) (by kernel_rfl) (by kernel_rfl) ?_
                      refine XD.take (i := 4) (l' := (lb 12 31)) (oA B39 [1, 1, 1, 1, 0] 4) (.v (.int .u8 (IntKind.u8.wrap ((Int.tmod (b.getD 12 0) 2) * 4)))) QOk.ctxG (by kernel_rfl) (by kernel_rfl) (by kernel_rfl) (by kernel_rfl) (by kernel_rfl) ?_
                      refine XD.take (i := 5) (l' := (lb 12 63)) (oA B39 [1, 1, 1, 1, 0] 5) (.v (.slice A b.length c)) QOk.ctxG (by kernel_rfl) (by kernel_rfl) (by kernel_rfl) (by kernel_rfl) (by kernel_rfl) ?_
                      have b35 : (0 : Int) ≤ 13 := by omega
                      have b36 : 13 < ((b.length : Nat) : Int) := by omega
                      obtain ⟨at37, lo37, hi37⟩ := At.int [] hb_d31 13 (by omega)
                      simp only [IntKind.lo, IntKind.hi] at lo37 hi37
                      refine XD.index (i := 6) (l' := (lb 12 127)) (o := (oA B39 [1, 1, 1, 1, 0] 6)) (t := 22) (e := 5) (sz := 1) (A := A) (n := b.length) (c := c) (ki := .i64) (j := 13) (x := .tmp 62) (ix := .const (.int .i64 13)) QOk.ctxG (by kernel_rfl) (by kernel_rfl) (by kernel_rfl) (by kernel_rfl) (by kernel_rfl) (by kernel_rfl) (by kernel_rfl) (by kernel_rfl) b35 b36 (fun _ _ => rowAt.so hb_d31 (by omega)) (by kernel_rfl) ?_
                      refine XD.load (i := 7) (l' := (lb 12 255)) (o := (oA B39 [1, 1, 1, 1, 0] 7)) (t := 5) (A := A) (j := 13 * 1) (x := .tmp 63) (z := .int .u8 (b.getD 13 0)) [.int .u8 (b.getD 13 0)] QOk.ctxG (by kernel_rfl) (by kernel_rfl) (by kernel_rfl) (by kernel_rfl) (by kernel_rfl) at37 (by kernel_rfl) (by kernel_rfl) ?_
                      refine XD.take (i := 8) (l' := (lb 12 511)) (oA B39 [1, 1, 1, 1, 0] 8) (.v (.int .u8 (IntKind.u8.wrap (Int.tdiv (b.getD 13 0) 64)))) QOk.ctxG (by kernel_rfl) (by kernel_rfl) (by kernel_rfl) (by kernel_rfl) (by kernel_rfl) ?_
                      refine XD.take (i := 9) (l' := (lb 12 1023)) (oA B39 [1, 1, 1, 1, 0] 9) (.v (.int .u8 (IntKind.u8.wrap ((IntKind.u8.wrap ((Int.tmod (b.getD 12 0) 2) * 4)) + (IntKind.u8.wrap (Int.tdiv (b.getD 13 0) 64)))))) QOk.ctxG (by kernel_rfl) (by kernel_rfl) (by kernel_rfl) (by kernel_rfl) (by kernel_rfl) ?_
                      refine XD.take (i := 10) (l' := (lb 12 2047)) (oA B39 [1, 1, 1, 1, 0] 10) (.own 4 5) QOk.ctxG (by kernel_rfl) (by kernel_rfl) (by kernel_rfl) (by kernel_rfl) (by kernel_rfl) ?_
                      refine XD.norm [2, 3, 4, 66, 67] [2, 4] ⟨69, [(2, .own 2 0), (3, .v (.int .i64 0)), (4, .own 4 0), (66, .v (.int .u8 (IntKind.u8.wrap ((IntKind.u8.wrap ((Int.tmod (b.getD 12 0) 2) * 4)) + (IntKind.u8.wrap (Int.tdiv (b.getD 13 0) 64)))))), (67, .own 4 5)], [(2, ⟨31, [.v (.int .u16 0), .v (.int .u16 0), .v (.int .u32 0), .v (.int .u32 0), .v (.int .u8 0), .v (.int .u8 0), .v (.int .u8 0), .v (.int .u16 0), .v (.int .u16 0), .v (.int .u16 0)]⟩), (4, ⟨31, [.v (.int .u16 (IntKind.u16.wrap (numB ys11))), .v (.int .u16 (IntKind.u16.wrap (numB ys12))), .v (.int .u32 (numB ys13)), .v (.int .u32 (numB ys14)), .v (.int .u8 (IntKind.u8.wrap (Int.tdiv (b.getD 12 0) 16))), .v (.int .u8 0), .v (.int .u8 (Int.tmod (b.getD 13 0) 64)), .v (.int .u16 (IntKind.u16.wrap (numB ys21))), .v (.int .u16 (IntKind.u16.wrap (numB ys22))), .v (.int .u16 (IntKind.u16.wrap (numB ys23)))]⟩)]⟩ (by kernel_rfl) trivial ?_
                      refine XD.one (i := 11) (l' := (lb 12 4095)) (oA B39 [1, 1, 1, 1, 0] 11) (by kernel_rfl) (by kernel_rfl) (by kernel_rfl) ?_
                      refine X.simple (by kernel_rfl) ?_
                      refine X.back ⟨trivial, Le.refl _, rfl, ?_⟩
                      refine XD.done (by kernel_rfl) ?_
                      refine X.run 9 [2, 3] [2] (.ex .ret) [] ⟨69, [(2, .own 2 0), (3, .v (.int .i64 0))], [(2, ⟨31, [.v (.int .u16 (IntKind.u16.wrap (numB ys11))), .v (.int .u16 (IntKind.u16.wrap (numB ys12))), .v (.int .u32 (numB ys13)), .v (.int .u32 (numB ys14)), .v (.int .u8 (IntKind.u8.wrap (Int.tdiv (b.getD 12 0) 16))), .v (.int .u8 (IntKind.u8.wrap ((IntKind.u8.wrap ((Int.tmod (b.getD 12 0) 2) * 4)) + (IntKind.u8.wrap (Int.tdiv (b.getD 13 0) 64))))), .v (.int .u8 (Int.tmod (b.getD 13 0) 64)), .v (.int .u16 (IntKind.u16.wrap (numB ys21))), .v (.int .u16 (IntKind.u16.wrap (numB ys22))), .v (.int .u16 (IntKind.u16.wrap (numB ys23)))]⟩)]⟩ (by kernel_rfl) ?_
                      refine doneG (.inl rfl) [.agg #[.int .u16 (IntKind.u16.wrap (numB ys11)), .int .u16 (IntKind.u16.wrap (numB ys12)), .int .u32 (numB ys13), .int .u32 (numB ys14), .int .u8 (IntKind.u8.wrap (Int.tdiv (b.getD 12 0) 16)), .int .u8 (IntKind.u8.wrap ((IntKind.u8.wrap ((Int.tmod (b.getD 12 0) 2) * 4)) + (IntKind.u8.wrap (Int.tdiv (b.getD 13 0) 64)))), .int .u8 (Int.tmod (b.getD 13 0) 64), .int .u16 (IntKind.u16.wrap (numB ys21)), .int .u16 (IntKind.u16.wrap (numB ys22)), .int .u16 (IntKind.u16.wrap (numB ys23))], .int .i64 0] [] (by kernel_rfl) rfl rfl (((((((hG24.trans hG25).trans hG26).trans hG27).trans hG28).trans hG29).trans hG30)) ?_
                      -- end 4 (FFF)
                      subst hys11 hys12 hys13 hys14 hys21 hys22 hys23
                      exact ⟨fun h => absurd h (by omega), fun h => absurd h.2 (by intro hh; rcases hh with hh | hh <;> contradiction), fun _ => rfl, rfl⟩
                    · -- 35 first
                      refine X.simple (by kernel_rfl) ?_
                      refine X.back ⟨trivial, (((((hG24.trans hG25).trans hG26).trans hG27).trans hG28).trans hG29).le, rfl, ?_⟩
                      refine XD.norm [0, 2, 3, 4, 25, 29, 32, 35, 39, 43, 47, 51, 53] [2, 4] ⟨69, [(0, .v (.slice A b.length c)), (2, .own 2 0), (3, .v (.int .i64 0)), (4, .own 4 0), (25, .v (.int .u16 (IntKind.u16.wrap (numB ys11)))), (29, .v (.int .u16 (IntKind.u16.wrap (numB ys12)))), (32, .v (.int .u32 (numB ys13))), (35, .v (.int .u32 (numB ys14))), (39, .v (.int .u8 (IntKind.u8.wrap (Int.tdiv (b.getD 12 0) 16)))), (43, .v (.int .u8 (Int.tmod (b.getD 13 0) 64))), (47, .v (.int .u16 (IntKind.u16.wrap (numB ys21)))), (51, .v (.int .u16 (IntKind.u16.wrap (numB ys22)))), (53, .v (.slice A23 ys23.length (c - 18)))], [(2, ⟨31, [.v (.int .u16 0), .v (.int .u16 0), .v (.int .u32 0), .v (.int .u32 0), .v (.int .u8 0), .v (.int .u8 0), .v (.int .u8 0), .v (.int .u16 0), .v (.int .u16 0), .v (.int .u16 0)]⟩), (4, ⟨31, [.v (.int .u16 0), .v (.int .u16 0), .v (.int .u32 0), .v (.int .u32 0), .v (.int .u8 0), .v (.int .u8 0), .v (.int .u8 0), .v (.int .u16 0), .v (.int .u16 0), .v (.int .u16 0)]⟩)]⟩ (by kernel_rfl) trivial ?_
                      refine XD.one (i := 32) (l' := (lb 37 42949672959)) (oA B39 [1, 1, 1, 0] 32) (by kernel_rfl) (by kernel_rfl) (by kernel_rfl) ?_
                      refine X.callG (f := 101) (l := [.v (.slice A23 ys23.length (c - 18))]) [.slice A23 ys23.length (c - 18)] 0 (by kernel_rfl) (by kernel_rfl) (by kernel_rfl) (num_ok _ _ ys23 _ hr23 hc23 hm23 (by omega)) ?_
                      rintro v38 G38 rows38 hG38 ⟨rfl, rfl⟩
                      replace hb := hb.mono hG38.le
                      replace hr11 := hr11.mono hG38.le
                      replace hr12 := hr12.mono hG38.le
                      replace hr13 := hr13.mono hG38.le
                      replace hr14 := hr14.mono hG38.le
                      replace hr21 := hr21.mono hG38.le
                      replace hr22 := hr22.mono hG38.le
                      replace hr23 := hr23.mono hG38.le
                      refine X.back ⟨trivial, ((((((hG24.trans hG25).trans hG26).trans hG27).trans hG28).trans hG29).trans hG38).le, rfl, ?_⟩
                      refine XD.take (i := 33) (l' := (lb 37 51539607551)) (oA B39 [1, 1, 1, 0] 33) (.v (.int .u16 (IntKind.u16.wrap (numB ys23)))) QOk.ctxG (by kernel_rfl) (by kernel_rfl) (by kernel_rfl) (by kernel_rfl) (by kernel_rfl) ?_
                      refine XD.take (i := 34) (l' := (lb 37 68719476735)) (oA B39 [1, 1, 1, 0] 34) (.v (.agg #[.int .u16 (IntKind.u16.wrap (numB ys11)), .int .u16 (IntKind.u16.wrap (numB ys12)), .int .u32 (numB ys13), .int .u32 (numB ys14), .int .u8 (IntKind.u8.wrap (Int.tdiv (b.getD 12 0) 16)), .int .u8 0, .int .u8 (Int.tmod (b.getD 13 0) 64), .int .u16 (IntKind.u16.wrap (numB ys21)), .int .u16 (IntKind.u16.wrap (numB ys22)), .int .u16 (IntKind.u16.wrap (numB ys23))])) QOk.ctxG (by kernel_rfl) (by kernel_rfl) (by kernel_rfl) (by kernel_rfl) (by kernel_rfl) ?_
                      refine XD.norm [0, 2, 3, 4, 56] [2, 4] ⟨69, [(0, .v (.slice A b.length c)), (2, .own 2 0), (3, .v (.int .i64 0)), (4, .own 4 0), (56, .v (.agg #[.int .u16 (IntKind.u16.wrap (numB ys11)), .int .u16 (IntKind.u16.wrap (numB ys12)), .int .u32 (numB ys13), .int .u32 (numB ys14), .int .u8 (IntKind.u8.wrap (Int.tdiv (b.getD 12 0) 16)), .int .u8 0, .int .u8 (Int.tmod (b.getD 13 0) 64), .int .u16 (IntKind.u16.wrap (numB ys21)), .int .u16 (IntKind.u16.wrap (numB ys22)), .int .u16 (IntKind.u16.wrap (numB ys23))]))], [(2, ⟨31, [.v (.int .u16 0), .v (.int .u16 0), .v (.int .u32 0), .v (.int .u32 0), .v (.int .u8 0), .v (.int .u8 0), .v (.int .u8 0), .v (.int .u16 0), .v (.int .u16 0), .v (.int .u16 0)]⟩), (4, ⟨31, [.v (.int .u16 0), .v (.int .u16 0), .v (.int .u32 0), .v (.int .u32 0), .v (.int .u8 0), .v (.int .u8 0), .v (.int .u8 0), .v (.int .u16 0), .v (.int .u16 0), .v (.int .u16 0)]⟩)]⟩ (by kernel_rfl) trivial ?_
                      refine XD.one (i := 36) (l' := (lb 37 137438953471)) (oA B39 [1, 1, 1, 0] 36) (by kernel_rfl) (by kernel_rfl) (by kernel_rfl) ?_
                      refine X.simple (by kernel_rfl) ?_
                      refine X.back ⟨trivial, ((((((hG24.trans hG25).trans hG26).trans hG27).trans hG28).trans hG29).trans hG38).le, rfl, ?_⟩
                      refine XD.done (by kernel_rfl) ?_
                      refine X.run 2 [0, 2, 3, 4] [2, 4] (.code (cA B39 [1, 1, 1, 1, 0])) [.seq (cA B39 [1, 1, 1, 1, 1])] ⟨69, [(0, .v (.slice A b.length c)), (2, .own 2 0), (3, .v (.int .i64 0)), (4, .own 4 0)], [(2, ⟨31, [.v (.int .u16 0), .v (.int .u16 0), .v (.int .u32 0), .v (.int .u32 0), .v (.int .u8 0), .v (.int .u8 0), .v (.int .u8 0), .v (.int .u16 0), .v (.int .u16 0), .v (.int .u16 0)]⟩), (4, ⟨31, [.v (.int .u16 (IntKind.u16.wrap (numB ys11))), .v (.int .u16 (IntKind.u16.wrap (numB ys12))), .v (.int .u32 (numB ys13)), .v (.int .u32 (numB ys14)), .v (.int .u8 (IntKind.u8.wrap (Int.tdiv (b.getD 12 0) 16))), .v (.int .u8 0), .v (.int .u8 (Int.tmod (b.getD 13 0) 64)), .v (.int .u16 (IntKind.u16.wrap (numB ys21))), .v (.int .u16 (IntKind.u16.wrap (numB ys22))), .v (.int .u16 (IntKind.u16.wrap (numB ys23)))]⟩)]⟩ (by kernel_rfl) ?_
                      have hb_d39 := hb
                      have hr11_d39 := hr11
                      have hr12_d39 := hr12
                      have hr13_d39 := hr13
                      have hr14_d39 := hr14
                      have hr21_d39 := hr21
                      have hr22_d39 := hr22
                      have hr23_d39 := hr23
                      refine XD.open (id := 6) (arr := aA B39 [1, 1, 1, 1, 0]) 12 [] [] [] (by kernel_rfl) (by kernel_rfl) (by kernel_rfl) (by kernel_rfl) (by kernel_rfl) trivial (by simp) rfl (fun ρ0 => ?_)
                      refine XD.take (i := 0) (l' := (lb 12 1)) (oA B39 [1, 1, 1, 1, 0] 0) (.v (.slice A b.length c)) QOk.ctxG (by kernel_rfl) (by kernel_rfl) (by kernel_rfl) (by kernel_rfl) (by kernel_rfl) ?_
                      have b40 : (0 : Int) ≤ 12 := by omega
                      have b41 : 12 < ((b.length : Nat) : Int) := by omega
                      obtain ⟨at42, lo42, hi42⟩ := At.int [] hb_d39 12 (by omega)
                      simp only [IntKind.lo, IntKind.hi] at lo42 hi42
                      refine XD.index (i := 1) (l' := (lb 12 3)) (o := (oA B39 [1, 1, 1, 1, 0] 1)) (t := 22) (e := 5) (sz := 1) (A := A) (n := b.length) (c := c) (ki := .i64) (j := 12) (x := .tmp 57) (ix := .const (.int .i64 12)) QOk.ctxG (by kernel_rfl) (by kernel_rfl) (by kernel_rfl) (by kernel_rfl) (by kernel_rfl) (by kernel_rfl) (by kernel_rfl) (by kernel_rfl) b40 b41 (fun _ _ => rowAt.so hb_d39 (by omega)) (by kernel_rfl) ?_
                      refine XD.load (i := 2) (l' := (lb 12 7)) (o := (oA B39 [1, 1, 1, 1, 0] 2)) (t := 5) (A := A) (j := 12 * 1) (x := .tmp 58) (z := .int .u8 (b.getD 12 0)) [.int .u8 (b.getD 12 0)] QOk.ctxG (by kernel_rfl) (by kernel_rfl) (by kernel_rfl) (by kernel_rfl) (by kernel_rfl) at42 (by kernel_rfl) (by kernel_rfl) ?_
                      refine XD.take (i := 3) (l' := (lb 12 15)) (oA B39 [1, 1, 1, 1, 0] 3) (.v (.int .u8 (Int.tmod (b.getD 12 0) 2))) QOk.ctxG (by kernel_rfl) (by kernel_rfl) (by kernel_rfl) (by kernel_rfl) (by kernel_rfl) ?_
                      refine XD.take (i := 4) (l' := (lb 12 31)) (oA B39 [1, 1, 1, 1, 0] 4) (.v (.int .u8 (IntKind.u8.wrap ((Int.tmod (b.getD 12 0) 2) * 4)))) QOk.ctxG (by kernel_rfl) (by kernel_rfl) (by kernel_rfl) (by kernel_rfl) (by kernel_rfl) ?_
                      refine XD.take (i := 5) (l' := (lb 12 63)) (oA B39 [1, 1, 1, 1, 0] 5) (.v (.slice A b.length c)) QOk.ctxG (by kernel_rfl) (by kernel_rfl) (by kernel_rfl) (by kernel_rfl) (by kernel_rfl) ?_
                      have b43 : (0 : Int) ≤ 13 := by omega
                      have b44 : 13 < ((b.length : Nat) : Int) := by omega
                      obtain ⟨at45, lo45, hi45⟩ := At.int [] hb_d39 13 (by omega)
                      simp only [IntKind.lo, IntKind.hi] at lo45 hi45
                      refine XD.index (i := 6) (l' := (lb 12 127)) (o := (oA B39 [1, 1, 1, 1, 0] 6)) (t := 22) (e := 5) (sz := 1) (A := A) (n := b.length) (c := c) (ki := .i64) (j := 13) (x := .tmp 62) (ix := .const (.int .i64 13)) QOk.ctxG (by kernel_rfl) (by kernel_rfl) (by kernel_rfl) (by kernel_rfl) (by kernel_rfl) (by kernel_rfl) (by kernel_rfl) (by kernel_rfl) b43 b44 (fun _ _ => rowAt.so hb_d39 (by omega)) (by kernel_rfl) ?_
                      refine XD.load (i := 7) (l' := (lb 12 255)) (o := (oA B39 [1, 1, 1, 1, 0] 7)) (t := 5) (A := A) (j := 13 * 1) (x := .tmp 63) (z := .int .u8 (b.getD 13 0)) [.int .u8 (b.getD 13 0)] QOk.ctxG (by kernel_rfl) (by kernel_rfl) (by kernel_rfl) (by kernel_rfl) (by kernel_rfl) at45 (by kernel_rfl) (by kernel_rfl) ?_
                      refine XD.take (i := 8) (l' := (lb 12 511)) (oA B39 [1, 1, 1, 1, 0] 8) (.v (.int .u8 (IntKind.u8.wrap (Int.tdiv (b.getD 13 0) 64)))) QOk.ctxG (by kernel_rfl) (by kernel_rfl) (by kernel_rfl) (by kernel_rfl) (by kernel_rfl) ?_
                      refine XD.take (i := 9) (l' := (lb 12 1023)) (oA B39 [1, 1, 1, 1, 0] 9) (.v (.int .u8 (IntKind.u8.wrap ((IntKind.u8.wrap ((Int.tmod (b.getD 12 0) 2) * 4)) + (IntKind.u8.wrap (Int.tdiv (b.getD 13 0) 64)))))) QOk.ctxG (by kernel_rfl) (by kernel_rfl) (by kernel_rfl) (by kernel_rfl) (by kernel_rfl) ?_
                      refine XD.take (i := 10) (l' := (lb 12 2047)) (oA B39 [1, 1, 1, 1, 0] 10) (.own 4 5) QOk.ctxG (by kernel_rfl) (by kernel_rfl) (by kernel_rfl) (by kernel_rfl) (by kernel_rfl) ?_
                      refine XD.norm [2, 3, 4, 66, 67] [2, 4] ⟨69, [(2, .own 2 0), (3, .v (.int .i64 0)), (4, .own 4 0), (66, .v (.int .u8 (IntKind.u8.wrap ((IntKind.u8.wrap ((Int.tmod (b.getD 12 0) 2) * 4)) + (IntKind.u8.wrap (Int.tdiv (b.getD 13 0) 64)))))), (67, .own 4 5)], [(2, ⟨31, [.v (.int .u16 0), .v (.int .u16 0), .v (.int .u32 0), .v (.int .u32 0), .v (.int .u8 0), .v (.int .u8 0), .v (.int .u8 0), .v (.int .u16 0), .v (.int .u16 0), .v (.int .u16 0)]⟩), (4, ⟨31, [.v (.int .u16 (IntKind.u16.wrap (numB ys11))), .v (.int .u16 (IntKind.u16.wrap (numB ys12))), .v (.int .u32 (numB ys13)), .v (.int .u32 (numB ys14)), .v (.int .u8 (IntKind.u8.wrap (Int.tdiv (b.getD 12 0) 16))), .v (.int .u8 0), .v (.int .u8 (Int.tmod (b.getD 13 0) 64)), .v (.int .u16 (IntKind.u16.wrap (numB ys21))), .v (.int .u16 (IntKind.u16.wrap (numB ys22))), .v (.int .u16 (IntKind.u16.wrap (numB ys23)))]⟩)]⟩ (by kernel_rfl) trivial ?_
                      refine XD.one (i := 11) (l' := (lb 12 4095)) (oA B39 [1, 1, 1, 1, 0] 11) (by kernel_rfl) (by kernel_rfl) (by kernel_rfl) ?_
                      refine X.simple (by kernel_rfl) ?_
                      refine X.back ⟨trivial, Le.refl _, rfl, ?_⟩
                      refine XD.done (by kernel_rfl) ?_
                      refine X.run 9 [2, 3] [2] (.ex .ret) [] ⟨69, [(2, .own 2 0), (3, .v (.int .i64 0))], [(2, ⟨31, [.v (.int .u16 (IntKind.u16.wrap (numB ys11))), .v (.int .u16 (IntKind.u16.wrap (numB ys12))), .v (.int .u32 (numB ys13)), .v (.int .u32 (numB ys14)), .v (.int .u8 (IntKind.u8.wrap (Int.tdiv (b.getD 12 0) 16))), .v (.int .u8 (IntKind.u8.wrap ((IntKind.u8.wrap ((Int.tmod (b.getD 12 0) 2) * 4)) + (IntKind.u8.wrap (Int.tdiv (b.getD 13 0) 64))))), .v (.int .u8 (Int.tmod (b.getD 13 0) 64)), .v (.int .u16 (IntKind.u16.wrap (numB ys21))), .v (.int .u16 (IntKind.u16.wrap (numB ys22))), .v (.int .u16 (IntKind.u16.wrap (numB ys23)))]⟩)]⟩ (by kernel_rfl) ?_
                      refine doneG (.inl rfl) [.agg #[.int .u16 (IntKind.u16.wrap (numB ys11)), .int .u16 (IntKind.u16.wrap (numB ys12)), .int .u32 (numB ys13), .int .u32 (numB ys14), .int .u8 (IntKind.u8.wrap (Int.tdiv (b.getD 12 0) 16)), .int .u8 (IntKind.u8.wrap ((IntKind.u8.wrap ((Int.tmod (b.getD 12 0) 2) * 4)) + (IntKind.u8.wrap (Int.tdiv (b.getD 13 0) 64)))), .int .u8 (Int.tmod (b.getD 13 0) 64), .int .u16 (IntKind.u16.wrap (numB ys21)), .int .u16 (IntKind.u16.wrap (numB ys22)), .int .u16 (IntKind.u16.wrap (numB ys23))], .int .i64 0] [] (by kernel_rfl) rfl rfl (((((((hG24.trans hG25).trans hG26).trans hG27).trans hG28).trans hG29).trans hG38)) ?_
                      -- end 5 (FFF)
                      subst hys11 hys12 hys13 hys14 hys21 hys22 hys23
                      exact ⟨fun h => absurd h (by omega), fun h => absurd h.2 (by intro hh; rcases hh with hh | hh <;> contradiction), fun _ => rfl, rfl⟩
                  · -- 35 first
                    refine X.simple (by kernel_rfl) ?_
                    refine X.back ⟨trivial, ((((hG24.trans hG25).trans hG26).trans hG27).trans hG28).le, rfl, ?_⟩
                    refine XD.norm [0, 2, 3, 4, 25, 29, 32, 35, 39, 43, 47, 49, 53] [2, 4] ⟨69, [(0, .v (.slice A b.length c)), (2, .own 2 0), (3, .v (.int .i64 0)), (4, .own 4 0), (25, .v (.int .u16 (IntKind.u16.wrap (numB ys11)))), (29, .v (.int .u16 (IntKind.u16.wrap (numB ys12)))), (32, .v (.int .u32 (numB ys13))), (35, .v (.int .u32 (numB ys14))), (39, .v (.int .u8 (IntKind.u8.wrap (Int.tdiv (b.getD 12 0) 16)))), (43, .v (.int .u8 (Int.tmod (b.getD 13 0) 64))), (47, .v (.int .u16 (IntKind.u16.wrap (numB ys21)))), (49, .v (.slice A22 ys22.length (c - 16))), (53, .v (.slice A23 ys23.length (c - 18)))], [(2, ⟨31, [.v (.int .u16 0), .v (.int .u16 0), .v (.int .u32 0), .v (.int .u32 0), .v (.int .u8 0), .v (.int .u8 0), .v (.int .u8 0), .v (.int .u16 0), .v (.int .u16 0), .v (.int .u16 0)]⟩), (4, ⟨31, [.v (.int .u16 0), .v (.int .u16 0), .v (.int .u32 0), .v (.int .u32 0), .v (.int .u8 0), .v (.int .u8 0), .v (.int .u8 0), .v (.int .u16 0), .v (.int .u16 0), .v (.int .u16 0)]⟩)]⟩ (by kernel_rfl) trivial ?_
                    refine XD.one (i := 28) (l' := (lb 37 38117834751)) (oA B39 [1, 1, 1, 0] 28) (by kernel_rfl) (by kernel_rfl) (by kernel_rfl) ?_
                    refine X.callG (f := 101) (l := [.v (.slice A22 ys22.length (c - 16))]) [.slice A22 ys22.length (c - 16)] 0 (by kernel_rfl) (by kernel_rfl) (by kernel_rfl) (num_ok _ _ ys22 _ hr22 hc22 hm22 (by omega)) ?_
                    rintro v46 G46 rows46 hG46 ⟨rfl, rfl⟩
                    replace hb := hb.mono hG46.le
                    replace hr11 := hr11.mono hG46.le
                    replace hr12 := hr12.mono hG46.le
                    replace hr13 := hr13.mono hG46.le
                    replace hr14 := hr14.mono hG46.le
                    replace hr21 := hr21.mono hG46.le
                    replace hr22 := hr22.mono hG46.le
                    replace hr23 := hr23.mono hG46.le
                    refine X.back ⟨trivial, (((((hG24.trans hG25).trans hG26).trans hG27).trans hG28).trans hG46).le, rfl, ?_⟩
                    refine XD.take (i := 29) (l' := (lb 37 38654705663)) (oA B39 [1, 1, 1, 0] 29) (.v (.int .u16 (IntKind.u16.wrap (numB ys22)))) QOk.ctxG (by kernel_rfl) (by kernel_rfl) (by kernel_rfl) (by kernel_rfl) (by kernel_rfl) ?_
                    refine XD.norm [0, 2, 3, 4, 25, 29, 32, 35, 39, 43, 47, 51, 53] [2, 4] ⟨69, [(0, .v (.slice A b.length c)), (2, .own 2 0), (3, .v (.int .i64 0)), (4, .own 4 0), (25, .v (.int .u16 (IntKind.u16.wrap (numB ys11)))), (29, .v (.int .u16 (IntKind.u16.wrap (numB ys12)))), (32, .v (.int .u32 (numB ys13))), (35, .v (.int .u32 (numB ys14))), (39, .v (.int .u8 (IntKind.u8.wrap (Int.tdiv (b.getD 12 0) 16)))), (43, .v (.int .u8 (Int.tmod (b.getD 13 0) 64))), (47, .v (.int .u16 (IntKind.u16.wrap (numB ys21)))), (51, .v (.int .u16 (IntKind.u16.wrap (numB ys22)))), (53, .v (.slice A23 ys23.length (c - 18)))], [(2, ⟨31, [.v (.int .u16 0), .v (.int .u16 0), .v (.int .u32 0), .v (.int .u32 0), .v (.int .u8 0), .v (.int .u8 0), .v (.int .u8 0), .v (.int .u16 0), .v (.int .u16 0), .v (.int .u16 0)]⟩), (4, ⟨31, [.v (.int .u16 0), .v (.int .u16 0), .v (.int .u32 0), .v (.int .u32 0), .v (.int .u8 0), .v (.int .u8 0), .v (.int .u8 0), .v (.int .u16 0), .v (.int .u16 0), .v (.int .u16 0)]⟩)]⟩ (by kernel_rfl) trivial ?_
                    refine XD.one (i := 32) (l' := (lb 37 42949672959)) (oA B39 [1, 1, 1, 0] 32) (by kernel_rfl) (by kernel_rfl) (by kernel_rfl) ?_
                    refine X.callG (f := 101) (l := [.v (.slice A23 ys23.length (c - 18))]) [.slice A23 ys23.length (c - 18)] 0 (by kernel_rfl) (by kernel_rfl) (by kernel_rfl) (num_ok _ _ ys23 _ hr23 hc23 hm23 (by omega)) ?_
                    rintro v47 G47 rows47 hG47 ⟨rfl, rfl⟩
                    replace hb := hb.mono hG47.le
                    replace hr11 := hr11.mono hG47.le
                    replace hr12 := hr12.mono hG47.le
                    replace hr13 := hr13.mono hG47.le
                    replace hr14 := hr14.mono hG47.le
                    replace hr21 := hr21.mono hG47.le
                    replace hr22 := hr22.mono hG47.le
                    replace hr23 := hr23.mono hG47.le
                    refine X.back ⟨trivial, ((((((hG24.trans hG25).trans hG26).trans hG27).trans hG28).trans hG46).trans hG47).le, rfl, ?_⟩
                    refine XD.take (i := 33) (l' := (lb 37 51539607551)) (oA B39 [1, 1, 1, 0] 33) (.v (.int .u16 (IntKind.u16.wrap (numB ys23)))) QOk.ctxG (by kernel_rfl) (by kernel_rfl) (by kernel_rfl) (by kernel_rfl) (by kernel_rfl) ?_
                    refine XD.take (i := 34) (l' := (lb 37 68719476735)) (oA B39 [1, 1, 1, 0] 34) (.v (.agg #[.int .u16 (IntKind.u16.wrap (numB ys11)), .int .u16 (IntKind.u16.wrap (numB ys12)), .int .u32 (numB ys13), .int .u32 (numB ys14), .int .u8 (IntKind.u8.wrap (Int.tdiv (b.getD 12 0) 16)), .int .u8 0, .int .u8 (Int.tmod (b.getD 13 0) 64), .int .u16 (IntKind.u16.wrap (numB ys21)), .int .u16 (IntKind.u16.wrap (numB ys22)), .int .u16 (IntKind.u16.wrap (numB ys23))])) QOk.ctxG (by kernel_rfl) (by kernel_rfl) (by kernel_rfl) (by kernel_rfl) (by kernel_rfl) ?_
                    refine XD.norm [0, 2, 3, 4, 56] [2, 4] ⟨69, [(0, .v (.slice A b.length c)), (2, .own 2 0), (3, .v (.int .i64 0)), (4, .own 4 0), (56, .v (.agg #[.int .u16 (IntKind.u16.wrap (numB ys11)), .int .u16 (IntKind.u16.wrap (numB ys12)), .int .u32 (numB ys13), .int .u32 (numB ys14), .int .u8 (IntKind.u8.wrap (Int.tdiv (b.getD 12 0) 16)), .int .u8 0, .int .u8 (Int.tmod (b.getD 13 0) 64), .int .u16 (IntKind.u16.wrap (numB ys21)), .int .u16 (IntKind.u16.wrap (numB ys22)), .int .u16 (IntKind.u16.wrap (numB ys23))]))], [(2, ⟨31, [.v (.int .u16 0), .v (.int .u16 0), .v (.int .u32 0), .v (.int .u32 0), .v (.int .u8 0), .v (.int .u8 0), .v (.int .u8 0), .v (.int .u16 0), .v (.int .u16 0), .v (.int .u16 0)]⟩), (4, ⟨31, [.v (.int .u16 0), .v (.int .u16 0), .v (.int .u32 0), .v (.int .u32 0), .v (.int .u8 0), .v (.int .u8 0), .v (.int .u8 0), .v (.int .u16 0), .v (.int .u16 0), .v (.int .u16 0)]⟩)]⟩ (by kernel_rfl) trivial ?_
                    refine XD.one (i := 36) (l' := (lb 37 137438953471)) (oA B39 [1, 1, 1, 0] 36) (by kernel_rfl) (by kernel_rfl) (by kernel_rfl) ?_
                    refine X.simple (by kernel_rfl) ?_
                    refine X.back ⟨trivial, ((((((hG24.trans hG25).trans hG26).trans hG27).trans hG28).trans hG46).trans hG47).le, rfl, ?_⟩
                    refine XD.done (by kernel_rfl) ?_
                    refine X.run 2 [0, 2, 3, 4] [2, 4] (.code (cA B39 [1, 1, 1, 1, 0])) [.seq (cA B39 [1, 1, 1, 1, 1])] ⟨69, [(0, .v (.slice A b.length c)), (2, .own 2 0), (3, .v (.int .i64 0)), (4, .own 4 0)], [(2, ⟨31, [.v (.int .u16 0), .v (.int .u16 0), .v (.int .u32 0), .v (.int .u32 0), .v (.int .u8 0), .v (.int .u8 0), .v (.int .u8 0), .v (.int .u16 0), .v (.int .u16 0), .v (.int .u16 0)]⟩), (4, ⟨31, [.v (.int .u16 (IntKind.u16.wrap (numB ys11))), .v (.int .u16 (IntKind.u16.wrap (numB ys12))), .v (.int .u32 (numB ys13)), .v (.int .u32 (numB ys14)), .v (.int .u8 (IntKind.u8.wrap (Int.tdiv (b.getD 12 0) 16))), .v (.int .u8 0), .v (.int .u8 (Int.tmod (b.getD 13 0) 64)), .v (.int .u16 (IntKind.u16.wrap (numB ys21))), .v (.int .u16 (IntKind.u16.wrap (numB ys22))), .v (.int .u16 (IntKind.u16.wrap (numB ys23)))]⟩)]⟩ (by kernel_rfl) ?_
                    have hb_d48 := hb
                    have hr11_d48 := hr11
                    have hr12_d48 := hr12
                    have hr13_d48 := hr13
                    have hr14_d48 := hr14
                    have hr21_d48 := hr21
                    have hr22_d48 := hr22
                    have hr23_d48 := hr23
                    refine XD.open (id := 6) (arr := aA B39 [1, 1, 1, 1, 0]) 12 [] [] [] (by kernel_rfl) (by kernel_rfl) (by kernel_rfl) (by kernel_rfl) (by kernel_rfl) trivial (by simp) rfl (fun ρ0 => ?_)
                    refine XD.take (i := 0) (l' := (lb 12 1)) (oA B39 [1, 1, 1, 1, 0] 0) (.v (.slice A b.length c)) QOk.ctxG (by kernel_rfl) (by kernel_rfl) (by kernel_rfl) (by kernel_rfl) (by kernel_rfl) ?_
                    have b49 : (0 : Int) ≤ 12 := by omega
                    have b50 : 12 < ((b.length : Nat) : Int) := by omega
                    obtain ⟨at51, lo51, hi51⟩ := At.int [] hb_d48 12 (by omega)
                    simp only [IntKind.lo, IntKind.hi] at lo51 hi51
                    refine XD.index (i := 1) (l' := (lb 12 3)) (o := (oA B39 [1, 1, 1, 1, 0] 1)) (t := 22) (e := 5) (sz := 1) (A := A) (n := b.length) (c := c) (ki := .i64) (j := 12) (x := .tmp 57) (ix := .const (.int .i64 12)) QOk.ctxG (by kernel_rfl) (by kernel_rfl) (by kernel_rfl) (by kernel_rfl) (by kernel_rfl) (by kernel_rfl) (by kernel_rfl) (by kernel_rfl) b49 b50 (fun _ _ => rowAt.so hb_d48 (by omega)) (by kernel_rfl) ?_
                    refine XD.load (i := 2) (l' := (lb 12 7)) (o := (oA B39 [1, 1, 1, 1, 0] 2)) (t := 5) (A := A) (j := 12 * 1) (x := .tmp 58) (z := .int .u8 (b.getD 12 0)) [.int .u8 (b.getD 12 0)] QOk.ctxG (by kernel_rfl) (by kernel_rfl) (by kernel_rfl) (by kernel_rfl) (by kernel_rfl) at51 (by kernel_rfl) (by kernel_rfl) ?_
                    refine XD.take (i := 3) (l' := (lb 12 15)) (oA B39 [1, 1, 1, 1, 0] 3) (.v (.int .u8 (Int.tmod (b.getD 12 0) 2))) QOk.ctxG (by kernel_rfl) (by kernel_rfl) (by kernel_rfl) (by kernel_rfl) (by kernel_rfl) ?_
                    refine XD.take (i := 4) (l' := (lb 12 31)) (oA B39 [1, 1, 1, 1, 0] 4) (.v (.int .u8 (IntKind.u8.wrap ((Int.tmod (b.getD 12 0) 2) * 4)))) QOk.ctxG (by kernel_rfl) (by kernel_rfl) (by kernel_rfl) (by kernel_rfl) (by kernel_rfl) ?_
                    refine XD.take (i := 5) (l' := (lb 12 63)) (oA B39 [1, 1, 1, 1, 0] 5) (.v (.slice A b.length c)) QOk.ctxG (by kernel_rfl) (by kernel_rfl) (by kernel_rfl) (by kernel_rfl) (by kernel_rfl) ?_
                    have b52 : (0 : Int) ≤ 13 := by omega
                    have b53 : 13 < ((b.length : Nat) : Int) := by omega
                    obtain ⟨at54, lo54, hi54⟩ := At.int [] hb_d48 13 (by omega)
                    simp only [IntKind.lo, IntKind.hi] at lo54 hi54
                    refine XD.index (i := 6) (l' := (lb 12 127)) (o := (oA B39 [1, 1, 1, 1, 0] 6)) (t := 22) (e := 5) (sz := 1) (A := A) (n := b.length) (c := c) (ki := .i64) (j := 13) (x := .tmp 62) (ix := .const (.int .i64 13)) QOk.ctxG (by kernel_rfl) (by kernel_rfl) (by kernel_rfl) (by kernel_rfl) (by kernel_rfl) (by kernel_rfl) (by kernel_rfl) (by kernel_rfl) b52 b53 (fun _ _ => rowAt.so hb_d48 (by omega)) (by kernel_rfl) ?_
                    refine XD.load (i := 7) (l' := (lb 12 255)) (o := (oA B39 [1, 1, 1, 1, 0] 7)) (t := 5) (A := A) (j := 13 * 1) (x := .tmp 63) (z := .int .u8 (b.getD 13 0)) [.int .u8 (b.getD 13 0)] QOk.ctxG (by kernel_rfl) (by kernel_rfl) (by kernel_rfl) (by kernel_rfl) (by kernel_rfl) at54 (by kernel_rfl) (by kernel_rfl) ?_
                    refine XD.take (i := 8) (l' := (lb 12 511)) (oA B39 [1, 1, 1, 1, 0] 8) (.v (.int .u8 (IntKind.u8.wrap (Int.tdiv (b.getD 13 0) 64)))) QOk.ctxG (by kernel_rfl) (by kernel_rfl) (by kernel_rfl) (by kernel_rfl) (by kernel_rfl) ?_
                    refine XD.take (i := 9) (l' := (lb 12 1023)) (oA B39 [1, 1, 1, 1, 0] 9) (.v (.int .u8 (IntKind.u8.wrap ((IntKind.u8.wrap ((Int.tmod (b.getD 12 0) 2) * 4)) + (IntKind.u8.wrap (Int.tdiv (b.getD 13 0) 64)))))) QOk.ctxG (by kernel_rfl) (by kernel_rfl) (by kernel_rfl) (by kernel_rfl) (by kernel_rfl) ?_
                    refine XD.take (i := 10) (l' := (lb 12 2047)) (oA B39 [1, 1, 1, 1, 0] 10) (.own 4 5) QOk.ctxG (by kernel_rfl) (by kernel_rfl) (by kernel_rfl) (by kernel_rfl) (by kernel_rfl) ?_
                    refine XD.norm [2, 3, 4, 66, 67] [2, 4] ⟨69, [(2, .own 2 0), (3, .v (.int .i64 0)), (4, .own 4 0), (66, .v (.int .u8 (IntKind.u8.wrap ((IntKind.u8.wrap ((Int.tmod (b.getD 12 0) 2) * 4)) + (IntKind.u8.wrap (Int.tdiv (b.getD 13 0) 64)))))), (67, .own 4 5)], [(2, ⟨31, [.v (.int .u16 0), .v (.int .u16 0), .v (.int .u32 0), .v (.int .u32 0), .v (.int .u8 0), .v (.int .u8 0), .v (.int .u8 0), .v (.int .u16 0), .v (.int .u16 0), .v (.int .u16 0)]⟩), (4, ⟨31, [.v (.int .u16 (IntKind.u16.wrap (numB ys11))), .v (.int .u16 (IntKind.u16.wrap (numB ys12))), .v (.int .u32 (numB ys13)), .v (.int .u32 (numB ys14)), .v (.int .u8 (IntKind.u8.wrap (Int.tdiv (b.getD 12 0) 16))), .v (.int .u8 0), .v (.int .u8 (Int.tmod (b.getD 13 0) 64)), .v (.int .u16 (IntKind.u16.wrap (numB ys21))), .v (.int .u16 (IntKind.u16.wrap (numB ys22))), .v (.int .u16 (IntKind.u16.wrap (numB ys23)))]⟩)]⟩ (by kernel_rfl) trivial ?_
                    refine XD.one (i := 11) (l' := (lb 12 4095)) (oA B39 [1, 1, 1, 1, 0] 11) (by kernel_rfl) (by kernel_rfl) (by kernel_rfl) ?_
                    refine X.simple (by kernel_rfl) ?_
                    refine X.back ⟨trivial, Le.refl _, rfl, ?_⟩
                    refine XD.done (by kernel_rfl) ?_
                    refine X.run 9 [2, 3] [2] (.ex .ret) [] ⟨69, [(2, .own 2 0), (3, .v (.int .i64 0))], [(2, ⟨31, [.v (.int .u16 (IntKind.u16.wrap (numB ys11))), .v (.int .u16 (IntKind.u16.wrap (numB ys12))), .v (.int .u32 (numB ys13)), .v (.int .u32 (numB ys14)), .v (.int .u8 (IntKind.u8.wrap (Int.tdiv (b.getD 12 0) 16))), .v (.int .u8 (IntKind.u8.wrap ((IntKind.u8.wrap ((Int.tmod (b.getD 12 0) 2) * 4)) + (IntKind.u8.wrap (Int.tdiv (b.getD 13 0) 64))))), .v (.int .u8 (Int.tmod (b.getD 13 0) 64)), .v (.int .u16 (IntKind.u16.wrap (numB ys21))), .v (.int .u16 (IntKind.u16.wrap (numB ys22))), .v (.int .u16 (IntKind.u16.wrap (numB ys23)))]⟩)]⟩ (by kernel_rfl) ?_
                    refine doneG (.inl rfl) [.agg #[.int .u16 (IntKind.u16.wrap (numB ys11)), .int .u16 (IntKind.u16.wrap (numB ys12)), .int .u32 (numB ys13), .int .u32 (numB ys14), .int .u8 (IntKind.u8.wrap (Int.tdiv (b.getD 12 0) 16)), .int .u8 (IntKind.u8.wrap ((IntKind.u8.wrap ((Int.tmod (b.getD 12 0) 2) * 4)) + (IntKind.u8.wrap (Int.tdiv (b.getD 13 0) 64)))), .int .u8 (Int.tmod (b.getD 13 0) 64), .int .u16 (IntKind.u16.wrap (numB ys21)), .int .u16 (IntKind.u16.wrap (numB ys22)), .int .u16 (IntKind.u16.wrap (numB ys23))], .int .i64 0] [] (by kernel_rfl) rfl rfl (((((((hG24.trans hG25).trans hG26).trans hG27).trans hG28).trans hG46).trans hG47)) ?_
                    -- end 6 (FFF)
                    subst hys11 hys12 hys13 hys14 hys21 hys22 hys23
                    exact ⟨fun h => absurd h (by omega), fun h => absurd h.2 (by intro hh; rcases hh with hh | hh <;> contradiction), fun _ => rfl, rfl⟩
                · -- 35 first
                  refine X.simple (by kernel_rfl) ?_
                  refine X.back ⟨trivial, (((hG24.trans hG25).trans hG26).trans hG27).le, rfl, ?_⟩
                  refine XD.norm [0, 2, 3, 4, 25, 29, 32, 35, 39, 43, 45, 49, 53] [2, 4] ⟨69, [(0, .v (.slice A b.length c)), (2, .own 2 0), (3, .v (.int .i64 0)), (4, .own 4 0), (25, .v (.int .u16 (IntKind.u16.wrap (numB ys11)))), (29, .v (.int .u16 (IntKind.u16.wrap (numB ys12)))), (32, .v (.int .u32 (numB ys13))), (35, .v (.int .u32 (numB ys14))), (39, .v (.int .u8 (IntKind.u8.wrap (Int.tdiv (b.getD 12 0) 16)))), (43, .v (.int .u8 (Int.tmod (b.getD 13 0) 64))), (45, .v (.slice A21 ys21.length (c - 14))), (49, .v (.slice A22 ys22.length (c - 16))), (53, .v (.slice A23 ys23.length (c - 18)))], [(2, ⟨31, [.v (.int .u16 0), .v (.int .u16 0), .v (.int .u32 0), .v (.int .u32 0), .v (.int .u8 0), .v (.int .u8 0), .v (.int .u8 0), .v (.int .u16 0), .v (.int .u16 0), .v (.int .u16 0)]⟩), (4, ⟨31, [.v (.int .u16 0), .v (.int .u16 0), .v (.int .u32 0), .v (.int .u32 0), .v (.int .u8 0), .v (.int .u8 0), .v (.int .u8 0), .v (.int .u16 0), .v (.int .u16 0), .v (.int .u16 0)]⟩)]⟩ (by kernel_rfl) trivial ?_
                  refine XD.one (i := 24) (l' := (lb 37 37815844863)) (oA B39 [1, 1, 1, 0] 24) (by kernel_rfl) (by kernel_rfl) (by kernel_rfl) ?_
                  refine X.callG (f := 101) (l := [.v (.slice A21 ys21.length (c - 14))]) [.slice A21 ys21.length (c - 14)] 0 (by kernel_rfl) (by kernel_rfl) (by kernel_rfl) (num_ok _ _ ys21 _ hr21 hc21 hm21 (by omega)) ?_
                  rintro v55 G55 rows55 hG55 ⟨rfl, rfl⟩
                  replace hb := hb.mono hG55.le
                  replace hr11 := hr11.mono hG55.le
                  replace hr12 := hr12.mono hG55.le
                  replace hr13 := hr13.mono hG55.le
                  replace hr14 := hr14.mono hG55.le
                  replace hr21 := hr21.mono hG55.le
                  replace hr22 := hr22.mono hG55.le
                  replace hr23 := hr23.mono hG55.le
                  refine X.back ⟨trivial, ((((hG24.trans hG25).trans hG26).trans hG27).trans hG55).le, rfl, ?_⟩
                  refine XD.take (i := 25) (l' := (lb 37 37849399295)) (oA B39 [1, 1, 1, 0] 25) (.v (.int .u16 (IntKind.u16.wrap (numB ys21)))) QOk.ctxG (by kernel_rfl) (by kernel_rfl) (by kernel_rfl) (by kernel_rfl) (by kernel_rfl) ?_
                  refine XD.norm [0, 2, 3, 4, 25, 29, 32, 35, 39, 43, 47, 49, 53] [2, 4] ⟨69, [(0, .v (.slice A b.length c)), (2, .own 2 0), (3, .v (.int .i64 0)), (4, .own 4 0), (25, .v (.int .u16 (IntKind.u16.wrap (numB ys11)))), (29, .v (.int .u16 (IntKind.u16.wrap (numB ys12)))), (32, .v (.int .u32 (numB ys13))), (35, .v (.int .u32 (numB ys14))), (39, .v (.int .u8 (IntKind.u8.wrap (Int.tdiv (b.getD 12 0) 16)))), (43, .v (.int .u8 (Int.tmod (b.getD 13 0) 64))), (47, .v (.int .u16 (IntKind.u16.wrap (numB ys21)))), (49, .v (.slice A22 ys22.length (c - 16))), (53, .v (.slice A23 ys23.length (c - 18)))], [(2, ⟨31, [.v (.int .u16 0), .v (.int .u16 0), .v (.int .u32 0), .v (.int .u32 0), .v (.int .u8 0), .v (.int .u8 0), .v (.int .u8 0), .v (.int .u16 0), .v (.int .u16 0), .v (.int .u16 0)]⟩), (4, ⟨31, [.v (.int .u16 0), .v (.int .u16 0), .v (.int .u32 0), .v (.int .u32 0), .v (.int .u8 0), .v (.int .u8 0), .v (.int .u8 0), .v (.int .u16 0), .v (.int .u16 0), .v (.int .u16 0)]⟩)]⟩ (by kernel_rfl) trivial ?_
                  refine XD.one (i := 28) (l' := (lb 37 38117834751)) (oA B39 [1, 1, 1, 0] 28) (by kernel_rfl) (by kernel_rfl) (by kernel_rfl) ?_
                  refine X.callG (f := 101) (l := [.v (.slice A22 ys22.length (c - 16))]) [.slice A22 ys22.length (c - 16)] 0 (by kernel_rfl) (by kernel_rfl) (by kernel_rfl) (num_ok _ _ ys22 _ hr22 hc22 hm22 (by omega)) ?_
                  rintro v56 G56 rows56 hG56 ⟨rfl, rfl⟩
                  replace hb := hb.mono hG56.le
                  replace hr11 := hr11.mono hG56.le
                  replace hr12 := hr12.mono hG56.le
                  replace hr13 := hr13.mono hG56.le
                  replace hr14 := hr14.mono hG56.le
                  replace hr21 := hr21.mono hG56.le
                  replace hr22 := hr22.mono hG56.le
                  replace hr23 := hr23.mono hG56.le
                  refine X.back ⟨trivial, (((((hG24.trans hG25).trans hG26).trans hG27).trans hG55).trans hG56).le, rfl, ?_⟩
                  refine XD.take (i := 29) (l' := (lb 37 38654705663)) (oA B39 [1, 1, 1, 0] 29) (.v (.int .u16 (IntKind.u16.wrap (numB ys22)))) QOk.ctxG (by kernel_rfl) (by kernel_rfl) (by kernel_rfl) (by kernel_rfl) (by kernel_rfl) ?_
                  refine XD.norm [0, 2, 3, 4, 25, 29, 32, 35, 39, 43, 47, 51, 53] [2, 4] ⟨69, [(0, .v (.slice A b.length c)), (2, .own 2 0), (3, .v (.int .i64 0)), (4, .own 4 0), (25, .v (.int .u16 (IntKind.u16.wrap (numB ys11)))), (29, .v (.int .u16 (IntKind.u16.wrap (numB ys12)))), (32, .v (.int .u32 (numB ys13))), (35, .v (.int .u32 (numB ys14))), (39, .v (.int .u8 (IntKind.u8.wrap (Int.tdiv (b.getD 12 0) 16)))), (43, .v (.int .u8 (Int.tmod (b.getD 13 0) 64))), (47, .v (.int .u16 (IntKind.u16.wrap (numB ys21)))), (51, .v (.int .u16 (IntKind.u16.wrap (numB ys22)))), (53, .v (.slice A23 ys23.length (c - 18)))], [(2, ⟨31, [.v (.int .u16 0), .v (.int .u16 0), .v (.int .u32 0), .v (.int .u32 0), .v (.int .u8 0), .v (.int .u8 0), .v (.int .u8 0), .v (.int .u16 0), .v (.int .u16 0), .v (.int .u16 0)]⟩), (4, ⟨31, [.v (.int .u16 0), .v (.int .u16 0), .v (.int .u32 0), .v (.int .u32 0), .v (.int .u8 0), .v (.int .u8 0), .v (.int .u8 0), .v (.int .u16 0), .v (.int .u16 0), .v (.int .u16 0)]⟩)]⟩ (by kernel_rfl) trivial ?_
                  refine XD.one (i := 32) (l' := (lb 37 42949672959)) (oA B39 [1, 1, 1, 0] 32) (by kernel_rfl) (by kernel_rfl) (by kernel_rfl) ?_
                  refine X.callG (f := 101) (l := [.v (.slice A23 ys23.length (c - 18))]) [.slice A23 ys23.length (c - 18)] 0 (by kernel_rfl) (by kernel_rfl) (by kernel_rfl) (num_ok _ _ ys23 _ hr23 hc23 hm23 (by omega)) ?_
                  rintro v57 G57 rows57 hG57 ⟨rfl, rfl⟩
                  replace hb := hb.mono hG57.le
                  replace hr11 := hr11.mono hG57.le
                  replace hr12 := hr12.mono hG57.le
                  replace hr13 := hr13.mono hG57.le
                  replace hr14 := hr14.mono hG57.le
                  replace hr21 := hr21.mono hG57.le
                  replace hr22 := hr22.mono hG57.le
                  replace hr23 := hr23.mono hG57.le
                  refine X.back ⟨trivial, ((((((hG24.trans hG25).trans hG26).trans hG27).trans hG55).trans hG56).trans hG57).le, rfl, ?_⟩
                  refine XD.take (i := 33) (l' := (lb 37 51539607551)) (oA B39 [1, 1, 1, 0] 33) (.v (.int .u16 (IntKind.u16.wrap (numB ys23)))) QOk.ctxG (by kernel_rfl) (by kernel_rfl) (by kernel_rfl) (by kernel_rfl) (by kernel_rfl) ?_
                  refine XD.take (i := 34) (l' := (lb 37 68719476735)) (oA B39 [1, 1, 1, 0] 34) (.v (.agg #[.int .u16 (IntKind.u16.wrap (numB ys11)), .int .u16 (IntKind.u16.wrap (numB ys12)), .int .u32 (numB ys13), .int .u32 (numB ys14), .int .u8 (IntKind.u8.wrap (Int.tdiv (b.getD 12 0) 16)), .int .u8 0, .int .u8 (Int.tmod (b.getD 13 0) 64), .int .u16 (IntKind.u16.wrap (numB ys21)), .int .u16 (IntKind.u16.wrap (numB ys22)), .int .u16 (IntKind.u16.wrap (numB ys23))])) QOk.ctxG (by kernel_rfl) (by kernel_rfl) (by kernel_rfl) (by kernel_rfl) (by kernel_rfl) ?_
                  refine XD.norm [0, 2, 3, 4, 56] [2, 4] ⟨69, [(0, .v (.slice A b.length c)), (2, .own 2 0), (3, .v (.int .i64 0)), (4, .own 4 0), (56, .v (.agg #[.int .u16 (IntKind.u16.wrap (numB ys11)), .int .u16 (IntKind.u16.wrap (numB ys12)), .int .u32 (numB ys13), .int .u32 (numB ys14), .int .u8 (IntKind.u8.wrap (Int.tdiv (b.getD 12 0) 16)), .int .u8 0, .int .u8 (Int.tmod (b.getD 13 0) 64), .int .u16 (IntKind.u16.wrap (numB ys21)), .int .u16 (IntKind.u16.wrap (numB ys22)), .int .u16 (IntKind.u16.wrap (numB ys23))]))], [(2, ⟨31, [.v (.int .u16 0), .v (.int .u16 0), .v (.int .u32 0), .v (.int .u32 0), .v (.int .u8 0), .v (.int .u8 0), .v (.int .u8 0), .v (.int .u16 0), .v (.int .u16 0), .v (.int .u16 0)]⟩), (4, ⟨31, [.v (.int .u16 0), .v (.int .u16 0), .v (.int .u32 0), .v (.int .u32 0), .v (.int .u8 0), .v (.int .u8 0), .v (.int .u8 0), .v (.int .u16 0), .v (.int .u16 0), .v (.int .u16 0)]⟩)]⟩ (by kernel_rfl) trivial ?_
                  refine XD.one (i := 36) (l' := (lb 37 137438953471)) (oA B39 [1, 1, 1, 0] 36) (by kernel_rfl) (by kernel_rfl) (by kernel_rfl) ?_
                  refine X.simple (by kernel_rfl) ?_
                  refine X.back ⟨trivial, ((((((hG24.trans hG25).trans hG26).trans hG27).trans hG55).trans hG56).trans hG57).le, rfl, ?_⟩
                  refine XD.done (by kernel_rfl) ?_
                  refine X.run 2 [0, 2, 3, 4] [2, 4] (.code (cA B39 [1, 1, 1, 1, 0])) [.seq (cA B39 [1, 1, 1, 1, 1])] ⟨69, [(0, .v (.slice A b.length c)), (2, .own 2 0), (3, .v (.int .i64 0)), (4, .own 4 0)], [(2, ⟨31, [.v (.int .u16 0), .v (.int .u16 0), .v (.int .u32 0), .v (.int .u32 0), .v (.int .u8 0), .v (.int .u8 0), .v (.int .u8 0), .v (.int .u16 0), .v (.int .u16 0), .v (.int .u16 0)]⟩), (4, ⟨31, [.v (.int .u16 (IntKind.u16.wrap (numB ys11))), .v (.int .u16 (IntKind.u16.wrap (numB ys12))), .v (.int .u32 (numB ys13)), .v (.int .u32 (numB ys14)), .v (.int .u8 (IntKind.u8.wrap (Int.tdiv (b.getD 12 0) 16))), .v (.int .u8 0), .v (.int .u8 (Int.tmod (b.getD 13 0) 64)), .v (.int .u16 (IntKind.u16.wrap (numB ys21))), .v (.int .u16 (IntKind.u16.wrap (numB ys22))), .v (.int .u16 (IntKind.u16.wrap (numB ys23)))]⟩)]⟩ (by kernel_rfl) ?_
                  have hb_d58 := hb
                  have hr11_d58 := hr11
                  have hr12_d58 := hr12
                  have hr13_d58 := hr13
                  have hr14_d58 := hr14
                  have hr21_d58 := hr21
                  have hr22_d58 := hr22
                  have hr23_d58 := hr23
                  refine XD.open (id := 6) (arr := aA B39 [1, 1, 1, 1, 0]) 12 [] [] [] (by kernel_rfl) (by kernel_rfl) (by kernel_rfl) (by kernel_rfl) (by kernel_rfl) trivial (by simp) rfl (fun ρ0 => ?_)
                  refine XD.take (i := 0) (l' := (lb 12 1)) (oA B39 [1, 1, 1, 1, 0] 0) (.v (.slice A b.length c)) QOk.ctxG (by kernel_rfl) (by kernel_rfl) (by kernel_rfl) (by kernel_rfl) (by kernel_rfl) ?_
                  have b59 : (0 : Int) ≤ 12 := by omega
                  have b60 : 12 < ((b.length : Nat) : Int) := by omega
                  obtain ⟨at61, lo61, hi61⟩ := At.int [] hb_d58 12 (by omega)
                  simp only [IntKind.lo, IntKind.hi] at lo61 hi61
                  refine XD.index (i := 1) (l' := (lb 12 3)) (o := (oA B39 [1, 1, 1, 1, 0] 1)) (t := 22) (e := 5) (sz := 1) (A := A) (n := b.length) (c := c) (ki := .i64) (j := 12) (x := .tmp 57) (ix := .const (.int .i64 12)) QOk.ctxG (by kernel_rfl) (by kernel_rfl) (by kernel_rfl) (by kernel_rfl) (by kernel_rfl) (by kernel_rfl) (by kernel_rfl) (by kernel_rfl) b59 b60 (fun _ _ => rowAt.so hb_d58 (by omega)) (by kernel_rfl) ?_
                  refine XD.load (i := 2) (l' := (lb 12 7)) (o := (oA B39 [1, 1, 1, 1, 0] 2)) (t := 5) (A := A) (j := 12 * 1) (x := .tmp 58) (z := .int .u8 (b.getD 12 0)) [.int .u8 (b.getD 12 0)] QOk.ctxG (by kernel_rfl) (by kernel_rfl) (by kernel_rfl) (by kernel_rfl) (by kernel_rfl) at61 (by kernel_rfl) (by kernel_rfl) ?_
                  refine XD.take (i := 3) (l' := (lb 12 15)) (oA B39 [1, 1, 1, 1, 0] 3) (.v (.int .u8 (Int.tmod (b.getD 12 0) 2))) QOk.ctxG (by kernel_rfl) (by kernel_rfl) (by kernel_rfl) (by kernel_rfl) (by kernel_rfl) ?_
                  refine XD.take (i := 4) (l' := (lb 12 31)) (oA B39 [1, 1, 1, 1, 0] 4) (.v (.int .u8 (IntKind.u8.wrap ((Int.tmod (b.getD 12 0) 2) * 4)))) QOk.ctxG (by kernel_rfl) (by kernel_rfl) (by kernel_rfl) (by kernel_rfl) (by kernel_rfl) ?_
                  refine XD.take (i := 5) (l' := (lb 12 63)) (oA B39 [1, 1, 1, 1, 0] 5) (.v (.slice A b.length c)) QOk.ctxG (by kernel_rfl) (by kernel_rfl) (by kernel_rfl) (by kernel_rfl) (by kernel_rfl) ?_
                  have b62 : (0 : Int) ≤ 13 := by omega
                  have b63 : 13 < ((b.length : Nat) : Int) := by omega
                  obtain ⟨at64, lo64, hi64⟩ := At.int [] hb_d58 13 (by omega)
                  simp only [IntKind.lo, IntKind.hi] at lo64 hi64
                  refine XD.index (i := 6) (l' := (lb 12 127)) (o := (oA B39 [1, 1, 1, 1, 0] 6)) (t := 22) (e := 5) (sz := 1) (A := A) (n := b.length) (c := c) (ki := .i64) (j := 13) (x := .tmp 62) (ix := .const (.int .i64 13)) QOk.ctxG (by kernel_rfl) (by kernel_rfl) (by kernel_rfl) (by kernel_rfl) (by kernel_rfl) (by kernel_rfl) (by kernel_rfl) (by kernel_rfl) b62 b63 (fun _ _ => rowAt.so hb_d58 (by omega)) (by kernel_rfl) ?_
                  refine XD.load (i := 7) (l' := (lb 12 255)) (o := (oA B39 [1, 1, 1, 1, 0] 7)) (t := 5) (A := A) (j := 13 * 1) (x := .tmp 63) (z := .int .u8 (b.getD 13 0)) [.int .u8 (b.getD 13 0)] QOk.ctxG (by kernel_rfl) (by kernel_rfl) (by kernel_rfl) (by kernel_rfl) (by kernel_rfl) at64 (by kernel_rfl) (by kernel_rfl) ?_
                  refine XD.take (i := 8) (l' := (lb 12 511)) (oA B39 [1, 1, 1, 1, 0] 8) (.v (.int .u8 (IntKind.u8.wrap (Int.tdiv (b.getD 13 0) 64)))) QOk.ctxG (by kernel_rfl) (by kernel_rfl) (by kernel_rfl) (by kernel_rfl) (by kernel_rfl) ?_
                  refine XD.take (i := 9) (l' := (lb 12 1023)) (oA B39 [1, 1, 1, 1, 0] 9) (.v (.int .u8 (IntKind.u8.wrap ((IntKind.u8.wrap ((Int.tmod (b.getD 12 0) 2) * 4)) + (IntKind.u8.wrap (Int.tdiv (b.getD 13 0) 64)))))) QOk.ctxG (by kernel_rfl) (by kernel_rfl) (by kernel_rfl) (by kernel_rfl) (by kernel_rfl) ?_
                  refine XD.take (i := 10) (l' := (lb 12 2047)) (oA B39 [1, 1, 1, 1, 0] 10) (.own 4 5) QOk.ctxG (by kernel_rfl) (by kernel_rfl) (by kernel_rfl) (by kernel_rfl) (by kernel_rfl) ?_
                  refine XD.norm [2, 3, 4, 66, 67] [2, 4] ⟨69, [(2, .own 2 0), (3, .v (.int .i64 0)), (4, .own 4 0), (66, .v (.int .u8 (IntKind.u8.wrap ((IntKind.u8.wrap ((Int.tmod (b.getD 12 0) 2) * 4)) + (IntKind.u8.wrap (Int.tdiv (b.getD 13 0) 64)))))), (67, .own 4 5)], [(2, ⟨31, [.v (.int .u16 0), .v (.int .u16 0), .v (.int .u32 0), .v (.int .u32 0), .v (.int .u8 0), .v (.int .u8 0), .v (.int .u8 0), .v (.int .u16 0), .v (.int .u16 0), .v (.int .u16 0)]⟩), (4, ⟨31, [.v (.int .u16 (IntKind.u16.wrap (numB ys11))), .v (.int .u16 (IntKind.u16.wrap (numB ys12))), .v (.int .u32 (numB ys13)), .v (.int .u32 (numB ys14)), .v (.int .u8 (IntKind.u8.wrap (Int.tdiv (b.getD 12 0) 16))), .v (.int .u8 0), .v (.int .u8 (Int.tmod (b.getD 13 0) 64)), .v (.int .u16 (IntKind.u16.wrap (numB ys21))), .v (.int .u16 (IntKind.u16.wrap (numB ys22))), .v (.int .u16 (IntKind.u16.wrap (numB ys23)))]⟩)]⟩ (by kernel_rfl) trivial ?_
                  refine XD.one (i := 11) (l' := (lb 12 4095)) (oA B39 [1, 1, 1, 1, 0] 11) (by kernel_rfl) (by kernel_rfl) (by kernel_rfl) ?_
                  refine X.simple (by kernel_rfl) ?_
                  refine X.back ⟨trivial, Le.refl _, rfl, ?_⟩
                  refine XD.done (by kernel_rfl) ?_
                  refine X.run 9 [2, 3] [2] (.ex .ret) [] ⟨69, [(2, .own 2 0), (3, .v (.int .i64 0))], [(2, ⟨31, [.v (.int .u16 (IntKind.u16.wrap (numB ys11))), .v (.int .u16 (IntKind.u16.wrap (numB ys12))), .v (.int .u32 (numB ys13)), .v (.int .u32 (numB ys14)), .v (.int .u8 (IntKind.u8.wrap (Int.tdiv (b.getD 12 0) 16))), .v (.int .u8 (IntKind.u8.wrap ((IntKind.u8.wrap ((Int.tmod (b.getD 12 0) 2) * 4)) + (IntKind.u8.wrap (Int.tdiv (b.getD 13 0) 64))))), .v (.int .u8 (Int.tmod (b.getD 13 0) 64)), .v (.int .u16 (IntKind.u16.wrap (numB ys21))), .v (.int .u16 (IntKind.u16.wrap (numB ys22))), .v (.int .u16 (IntKind.u16.wrap (numB ys23)))]⟩)]⟩ (by kernel_rfl) ?_
                  refine doneG (.inl rfl) [.agg #[.int .u16 (IntKind.u16.wrap (numB ys11)), .int .u16 (IntKind.u16.wrap (numB ys12)), .int .u32 (numB ys13), .int .u32 (numB ys14), .int .u8 (IntKind.u8.wrap (Int.tdiv (b.getD 12 0) 16)), .int .u8 (IntKind.u8.wrap ((IntKind.u8.wrap ((Int.tmod (b.getD 12 0) 2) * 4)) + (IntKind.u8.wrap (Int.tdiv (b.getD 13 0) 64)))), .int .u8 (Int.tmod (b.getD 13 0) 64), .int .u16 (IntKind.u16.wrap (numB ys21)), .int .u16 (IntKind.u16.wrap (numB ys22)), .int .u16 (IntKind.u16.wrap (numB ys23))], .int .i64 0] [] (by kernel_rfl) rfl rfl (((((((hG24.trans hG25).trans hG26).trans hG27).trans hG55).trans hG56).trans hG57)) ?_
                  -- end 7 (FFF)
                  subst hys11 hys12 hys13 hys14 hys21 hys22 hys23
                  exact ⟨fun h => absurd h (by omega), fun h => absurd h.2 (by intro hh; rcases hh with hh | hh <;> contradiction), fun _ => rfl, rfl⟩
              · -- 35 first
                refine X.simple (by kernel_rfl) ?_
                refine X.back ⟨trivial, ((hG24.trans hG25).trans hG26).le, rfl, ?_⟩
                refine XD.norm [0, 2, 3, 4, 25, 29, 32, 34, 39, 43, 45, 49, 53] [2, 4] ⟨69, [(0, .v (.slice A b.length c)), (2, .own 2 0), (3, .v (.int .i64 0)), (4, .own 4 0), (25, .v (.int .u16 (IntKind.u16.wrap (numB ys11)))), (29, .v (.int .u16 (IntKind.u16.wrap (numB ys12)))), (32, .v (.int .u32 (numB ys13))), (34, .v (.slice A14 ys14.length (c - 8))), (39, .v (.int .u8 (IntKind.u8.wrap (Int.tdiv (b.getD 12 0) 16)))), (43, .v (.int .u8 (Int.tmod (b.getD 13 0) 64))), (45, .v (.slice A21 ys21.length (c - 14))), (49, .v (.slice A22 ys22.length (c - 16))), (53, .v (.slice A23 ys23.length (c - 18)))], [(2, ⟨31, [.v (.int .u16 0), .v (.int .u16 0), .v (.int .u32 0), .v (.int .u32 0), .v (.int .u8 0), .v (.int .u8 0), .v (.int .u8 0), .v (.int .u16 0), .v (.int .u16 0), .v (.int .u16 0)]⟩), (4, ⟨31, [.v (.int .u16 0), .v (.int .u16 0), .v (.int .u32 0), .v (.int .u32 0), .v (.int .u8 0), .v (.int .u8 0), .v (.int .u8 0), .v (.int .u16 0), .v (.int .u16 0), .v (.int .u16 0)]⟩)]⟩ (by kernel_rfl) trivial ?_
                refine XD.one (i := 13) (l' := (lb 37 37799067647)) (oA B39 [1, 1, 1, 0] 13) (by kernel_rfl) (by kernel_rfl) (by kernel_rfl) ?_
                refine X.callG (f := 101) (l := [.v (.slice A14 ys14.length (c - 8))]) [.slice A14 ys14.length (c - 8)] 0 (by kernel_rfl) (by kernel_rfl) (by kernel_rfl) (num_ok _ _ ys14 _ hr14 hc14 hm14 (by omega)) ?_
                rintro v65 G65 rows65 hG65 ⟨rfl, rfl⟩
                replace hb := hb.mono hG65.le
                replace hr11 := hr11.mono hG65.le
                replace hr12 := hr12.mono hG65.le
                replace hr13 := hr13.mono hG65.le
                replace hr14 := hr14.mono hG65.le
                replace hr21 := hr21.mono hG65.le
                replace hr22 := hr22.mono hG65.le
                replace hr23 := hr23.mono hG65.le
                refine X.back ⟨trivial, (((hG24.trans hG25).trans hG26).trans hG65).le, rfl, ?_⟩
                refine XD.norm [0, 2, 3, 4, 25, 29, 32, 35, 39, 43, 45, 49, 53] [2, 4] ⟨69, [(0, .v (.slice A b.length c)), (2, .own 2 0), (3, .v (.int .i64 0)), (4, .own 4 0), (25, .v (.int .u16 (IntKind.u16.wrap (numB ys11)))), (29, .v (.int .u16 (IntKind.u16.wrap (numB ys12)))), (32, .v (.int .u32 (numB ys13))), (35, .v (.int .u32 (numB ys14))), (39, .v (.int .u8 (IntKind.u8.wrap (Int.tdiv (b.getD 12 0) 16)))), (43, .v (.int .u8 (Int.tmod (b.getD 13 0) 64))), (45, .v (.slice A21 ys21.length (c - 14))), (49, .v (.slice A22 ys22.length (c - 16))), (53, .v (.slice A23 ys23.length (c - 18)))], [(2, ⟨31, [.v (.int .u16 0), .v (.int .u16 0), .v (.int .u32 0), .v (.int .u32 0), .v (.int .u8 0), .v (.int .u8 0), .v (.int .u8 0), .v (.int .u16 0), .v (.int .u16 0), .v (.int .u16 0)]⟩), (4, ⟨31, [.v (.int .u16 0), .v (.int .u16 0), .v (.int .u32 0), .v (.int .u32 0), .v (.int .u8 0), .v (.int .u8 0), .v (.int .u8 0), .v (.int .u16 0), .v (.int .u16 0), .v (.int .u16 0)]⟩)]⟩ (by kernel_rfl) trivial ?_
                refine XD.one (i := 24) (l' := (lb 37 37815844863)) (oA B39 [1, 1, 1, 0] 24) (by kernel_rfl) (by kernel_rfl) (by kernel_rfl) ?_
                refine X.callG (f := 101) (l := [.v (.slice A21 ys21.length (c - 14))]) [.slice A21 ys21.length (c - 14)] 0 (by kernel_rfl) (by kernel_rfl) (by kernel_rfl) (num_ok _ _ ys21 _ hr21 hc21 hm21 (by omega)) ?_
                rintro v66 G66 rows66 hG66 ⟨rfl, rfl⟩
                replace hb := hb.mono hG66.le
                replace hr11 := hr11.mono hG66.le
                replace hr12 := hr12.mono hG66.le
                replace hr13 := hr13.mono hG66.le
                replace hr14 := hr14.mono hG66.le
                replace hr21 := hr21.mono hG66.le
                replace hr22 := hr22.mono hG66.le
                replace hr23 := hr23.mono hG66.le
                refine X.back ⟨trivial, ((((hG24.trans hG25).trans hG26).trans hG65).trans hG66).le, rfl, ?_⟩
                refine XD.take (i := 25) (l' := (lb 37 37849399295)) (oA B39 [1, 1, 1, 0] 25) (.v (.int .u16 (IntKind.u16.wrap (numB ys21)))) QOk.ctxG (by kernel_rfl) (by kernel_rfl) (by kernel_rfl) (by kernel_rfl) (by kernel_rfl) ?_
                refine XD.norm [0, 2, 3, 4, 25, 29, 32, 35, 39, 43, 47, 49, 53] [2, 4] ⟨69, [(0, .v (.slice A b.length c)), (2, .own 2 0), (3, .v (.int .i64 0)), (4, .own 4 0), (25, .v (.int .u16 (IntKind.u16.wrap (numB ys11)))), (29, .v (.int .u16 (IntKind.u16.wrap (numB ys12)))), (32, .v (.int .u32 (numB ys13))), (35, .v (.int .u32 (numB ys14))), (39, .v (.int .u8 (IntKind.u8.wrap (Int.tdiv (b.getD 12 0) 16)))), (43, .v (.int .u8 (Int.tmod (b.getD 13 0) 64))), (47, .v (.int .u16 (IntKind.u16.wrap (numB ys21)))), (49, .v (.slice A22 ys22.length (c - 16))), (53, .v (.slice A23 ys23.length (c - 18)))], [(2, ⟨31, [.v (.int .u16 0), .v (.int .u16 0), .v (.int .u32 0), .v (.int .u32 0), .v (.int .u8 0), .v (.int .u8 0), .v (.int .u8 0), .v (.int .u16 0), .v (.int .u16 0), .v (.int .u16 0)]⟩), (4, ⟨31, [.v (.int .u16 0), .v (.int .u16 0), .v (.int .u32 0), .v (.int .u32 0), .v (.int .u8 0), .v (.int .u8 0), .v (.int .u8 0), .v (.int .u16 0), .v (.int .u16 0), .v (.int .u16 0)]⟩)]⟩ (by kernel_rfl) trivial ?_
                refine XD.one (i := 28) (l' := (lb 37 38117834751)) (oA B39 [1, 1, 1, 0] 28) (by kernel_rfl) (by kernel_rfl) (by kernel_rfl) ?_
                refine X.callG (f := 101) (l := [.v (.slice A22 ys22.length (c - 16))]) [.slice A22 ys22.length (c - 16)] 0 (by kernel_rfl) (by kernel_rfl) (by kernel_rfl) (num_ok _ _ ys22 _ hr22 hc22 hm22 (by omega)) ?_
                rintro v67 G67 rows67 hG67 ⟨rfl, rfl⟩
                replace hb := hb.mono hG67.le
                replace hr11 := hr11.mono hG67.le
                replace hr12 := hr12.mono hG67.le
                replace hr13 := hr13.mono hG67.le
                replace hr14 := hr14.mono hG67.le
                replace hr21 := hr21.mono hG67.le
                replace hr22 := hr22.mono hG67.le
                replace hr23 := hr23.mono hG67.le
                refine X.back ⟨trivial, (((((hG24.trans hG25).trans hG26).trans hG65).trans hG66).trans hG67).le, rfl, ?_⟩
                refine XD.take (i := 29) (l' := (lb 37 38654705663)) (oA B39 [1, 1, 1, 0] 29) (.v (.int .u16 (IntKind.u16.wrap (numB ys22)))) QOk.ctxG (by kernel_rfl) (by kernel_rfl) (by kernel_rfl) (by kernel_rfl) (by kernel_rfl) ?_
                refine XD.norm [0, 2, 3, 4, 25, 29, 32, 35, 39, 43, 47, 51, 53] [2, 4] ⟨69, [(0, .v (.slice A b.length c)), (2, .own 2 0), (3, .v (.int .i64 0)), (4, .own 4 0), (25, .v (.int .u16 (IntKind.u16.wrap (numB ys11)))), (29, .v (.int .u16 (IntKind.u16.wrap (numB ys12)))), (32, .v (.int .u32 (numB ys13))), (35, .v (.int .u32 (numB ys14))), (39, .v (.int .u8 (IntKind.u8.wrap (Int.tdiv (b.getD 12 0) 16)))), (43, .v (.int .u8 (Int.tmod (b.getD 13 0) 64))), (47, .v (.int .u16 (IntKind.u16.wrap (numB ys21)))), (51, .v (.int .u16 (IntKind.u16.wrap (numB ys22)))), (53, .v (.slice A23 ys23.length (c - 18)))], [(2, ⟨31, [.v (.int .u16 0), .v (.int .u16 0), .v (.int .u32 0), .v (.int .u32 0), .v (.int .u8 0), .v (.int .u8 0), .v (.int .u8 0), .v (.int .u16 0), .v (.int .u16 0), .v (.int .u16 0)]⟩), (4, ⟨31, [.v (.int .u16 0), .v (.int .u16 0), .v (.int .u32 0), .v (.int .u32 0), .v (.int .u8 0), .v (.int .u8 0), .v (.int .u8 0), .v (.int .u16 0), .v (.int .u16 0), .v (.int .u16 0)]⟩)]⟩ (by kernel_rfl) trivial ?_
                refine XD.one (i := 32) (l' := (lb 37 42949672959)) (oA B39 [1, 1, 1, 0] 32) (by kernel_rfl) (by kernel_rfl) (by kernel_rfl) ?_
                refine X.callG (f := 101) (l := [.v (.slice A23 ys23.length (c - 18))]) [.slice A23 ys23.length (c - 18)] 0 (by kernel_rfl) (by kernel_rfl) (by kernel_rfl) (num_ok _ _ ys23 _ hr23 hc23 hm23 (by omega)) ?_
                rintro v68 G68 rows68 hG68 ⟨rfl, rfl⟩
                replace hb := hb.mono hG68.le
                replace hr11 := hr11.mono hG68.le
                replace hr12 := hr12.mono hG68.le
                replace hr13 := hr13.mono hG68.le
                replace hr14 := hr14.mono hG68.le
                replace hr21 := hr21.mono hG68.le
                replace hr22 := hr22.mono hG68.le
                replace hr23 := hr23.mono hG68.le
                refine X.back ⟨trivial, ((((((hG24.trans hG25).trans hG26).trans hG65).trans hG66).trans hG67).trans hG68).le, rfl, ?_⟩
                refine XD.take (i := 33) (l' := (lb 37 51539607551)) (oA B39 [1, 1, 1, 0] 33) (.v (.int .u16 (IntKind.u16.wrap (numB ys23)))) QOk.ctxG (by kernel_rfl) (by kernel_rfl) (by kernel_rfl) (by kernel_rfl) (by kernel_rfl) ?_
                refine XD.take (i := 34) (l' := (lb 37 68719476735)) (oA B39 [1, 1, 1, 0] 34) (.v (.agg #[.int .u16 (IntKind.u16.wrap (numB ys11)), .int .u16 (IntKind.u16.wrap (numB ys12)), .int .u32 (numB ys13), .int .u32 (numB ys14), .int .u8 (IntKind.u8.wrap (Int.tdiv (b.getD 12 0) 16)), .int .u8 0, .int .u8 (Int.tmod (b.getD 13 0) 64), .int .u16 (IntKind.u16.wrap (numB ys21)), .int .u16 (IntKind.u16.wrap (numB ys22)), .int .u16 (IntKind.u16.wrap (numB ys23))])) QOk.ctxG (by kernel_rfl) (by kernel_rfl) (by kernel_rfl) (by kernel_rfl) (by kernel_rfl) ?_
                refine XD.norm [0, 2, 3, 4, 56] [2, 4] ⟨69, [(0, .v (.slice A b.length c)), (2, .own 2 0), (3, .v (.int .i64 0)), (4, .own 4 0), (56, .v (.agg #[.int .u16 (IntKind.u16.wrap (numB ys11)), .int .u16 (IntKind.u16.wrap (numB ys12)), .int .u32 (numB ys13), .int .u32 (numB ys14), .int .u8 (IntKind.u8.wrap (Int.tdiv (b.getD 12 0) 16)), .int .u8 0, .int .u8 (Int.tmod (b.getD 13 0) 64), .int .u16 (IntKind.u16.wrap (numB ys21)), .int .u16 (IntKind.u16.wrap (numB ys22)), .int .u16 (IntKind.u16.wrap (numB ys23))]))], [(2, ⟨31, [.v (.int .u16 0), .v (.int .u16 0), .v (.int .u32 0), .v (.int .u32 0), .v (.int .u8 0), .v (.int .u8 0), .v (.int .u8 0), .v (.int .u16 0), .v (.int .u16 0), .v (.int .u16 0)]⟩), (4, ⟨31, [.v (.int .u16 0), .v (.int .u16 0), .v (.int .u32 0), .v (.int .u32 0), .v (.int .u8 0), .v (.int .u8 0), .v (.int .u8 0), .v (.int .u16 0), .v (.int .u16 0), .v (.int .u16 0)]⟩)]⟩ (by kernel_rfl) trivial ?_
                refine XD.one (i := 36) (l' := (lb 37 137438953471)) (oA B39 [1, 1, 1, 0] 36) (by kernel_rfl) (by kernel_rfl) (by kernel_rfl) ?_
                refine X.simple (by kernel_rfl) ?_
                refine X.back ⟨trivial, ((((((hG24.trans hG25).trans hG26).trans hG65).trans hG66).trans hG67).trans hG68).le, rfl, ?_⟩
                refine XD.done (by kernel_rfl) ?_
                refine X.run 2 [0, 2, 3, 4] [2, 4] (.code (cA B39 [1, 1, 1, 1, 0])) [.seq (cA B39 [1, 1, 1, 1, 1])] ⟨69, [(0, .v (.slice A b.length c)), (2, .own 2 0), (3, .v (.int .i64 0)), (4, .own 4 0)], [(2, ⟨31, [.v (.int .u16 0), .v (.int .u16 0), .v (.int .u32 0), .v (.int .u32 0), .v (.int .u8 0), .v (.int .u8 0), .v (.int .u8 0), .v (.int .u16 0), .v (.int .u16 0), .v (.int .u16 0)]⟩), (4, ⟨31, [.v (.int .u16 (IntKind.u16.wrap (numB ys11))), .v (.int .u16 (IntKind.u16.wrap (numB ys12))), .v (.int .u32 (numB ys13)), .v (.int .u32 (numB ys14)), .v (.int .u8 (IntKind.u8.wrap (Int.tdiv (b.getD 12 0) 16))), .v (.int .u8 0), .v (.int .u8 (Int.tmod (b.getD 13 0) 64)), .v (.int .u16 (IntKind.u16.wrap (numB ys21))), .v (.int .u16 (IntKind.u16.wrap (numB ys22))), .v (.int .u16 (IntKind.u16.wrap (numB ys23)))]⟩)]⟩ (by kernel_rfl) ?_
                have hb_d69 := hb
                have hr11_d69 := hr11
                have hr12_d69 := hr12
                have hr13_d69 := hr13
                have hr14_d69 := hr14
                have hr21_d69 := hr21
                have hr22_d69 := hr22
                have hr23_d69 := hr23
                refine XD.open (id := 6) (arr := aA B39 [1, 1, 1, 1, 0]) 12 [] [] [] (by kernel_rfl) (by kernel_rfl) (by kernel_rfl) (by kernel_rfl) (by kernel_rfl) trivial (by simp) rfl (fun ρ0 => ?_)
                refine XD.take (i := 0) (l' := (lb 12 1)) (oA B39 [1, 1, 1, 1, 0] 0) (.v (.slice A b.length c)) QOk.ctxG (by kernel_rfl) (by kernel_rfl) (by kernel_rfl) (by kernel_rfl) (by kernel_rfl) ?_
                have b70 : (0 : Int) ≤ 12 := by omega
                have b71 : 12 < ((b.length : Nat) : Int) := by omega
                obtain ⟨at72, lo72, hi72⟩ := At.int [] hb_d69 12 (by omega)
                simp only [IntKind.lo, IntKind.hi] at lo72 hi72
                refine XD.index (i := 1) (l' := (lb 12 3)) (o := (oA B39 [1, 1, 1, 1, 0] 1)) (t := 22) (e := 5) (sz := 1) (A := A) (n := b.length) (c := c) (ki := .i64) (j := 12) (x := .tmp 57) (ix := .const (.int .i64 12)) QOk.ctxG (by kernel_rfl) (by kernel_rfl) (by kernel_rfl) (by kernel_rfl) (by kernel_rfl) (by kernel_rfl) (by kernel_rfl) (by kernel_rfl) b70 b71 (fun _ _ => rowAt.so hb_d69 (by omega)) (by kernel_rfl) ?_
                refine XD.load (i := 2) (l' := (lb 12 7)) (o := (oA B39 [1, 1, 1, 1, 0] 2)) (t := 5) (A := A) (j := 12 * 1) (x := .tmp 58) (z := .int .u8 (b.getD 12 0)) [.int .u8 (b.getD 12 0)] QOk.ctxG (by kernel_rfl) (by kernel_rfl) (by kernel_rfl) (by kernel_rfl) (by kernel_rfl) at72 (by kernel_rfl) (by kernel_rfl) ?_
                refine XD.take (i := 3) (l' := (lb 12 15)) (oA B39 [1, 1, 1, 1, 0] 3) (.v (.int .u8 (Int.tmod (b.getD 12 0) 2))) QOk.ctxG (by kernel_rfl) (by kernel_rfl) (by kernel_rfl) (by kernel_rfl) (by kernel_rfl) ?_
                refine XD.take (i := 4) (l' := (lb 12 31)) (oA B39 [1, 1, 1, 1, 0] 4) (.v (.int .u8 (IntKind.u8.wrap ((Int.tmod (b.getD 12 0) 2) * 4)))) QOk.ctxG (by kernel_rfl) (by kernel_rfl) (by kernel_rfl) (by kernel_rfl) (by kernel_rfl) ?_
                refine XD.take (i := 5) (l' := (lb 12 63)) (oA B39 [1, 1, 1, 1, 0] 5) (.v (.slice A b.length c)) QOk.ctxG (by kernel_rfl) (by kernel_rfl) (by kernel_rfl) (by kernel_rfl) (by kernel_rfl) ?_
                have b73 : (0 : Int) ≤ 13 := by omega
                have b74 : 13 < ((b.length : Nat) : Int) := by omega
                obtain ⟨at75, lo75, hi75⟩ := At.int [] hb_d69 13 (by omega)
                simp only [IntKind.lo, IntKind.hi] at lo75 hi75
                refine XD.index (i := 6) (l' := (lb 12 127)) (o := (oA B39 [1, 1, 1, 1, 0] 6)) (t := 22) (e := 5) (sz := 1) (A := A) (n := b.length) (c := c) (ki := .i64) (j := 13) (x := .tmp 62) (ix := .const (.int .i64 13)) QOk.ctxG (by kernel_rfl) (by kernel_rfl) (by kernel_rfl) (by kernel_rfl) (by kernel_rfl) (by kernel_rfl) (by kernel_rfl) (by kernel_rfl) b73 b74 (fun _ _ => rowAt.so hb_d69 (by omega)) (by kernel_rfl) ?_
                refine XD.load (i := 7) (l' := (lb 12 255)) (o := (oA B39 [1, 1, 1, 1, 0] 7)) (t := 5) (A := A) (j := 13 * 1) (x := .tmp 63) (z := .int .u8 (b.getD 13 0)) [.int .u8 (b.getD 13 0)] QOk.ctxG (by kernel_rfl) (by kernel_rfl) (by kernel_rfl) (by kernel_rfl) (by kernel_rfl) at75 (by kernel_rfl) (by kernel_rfl) ?_
                refine XD.take (i := 8) (l' := (lb 12 511)) (oA B39 [1, 1, 1, 1, 0] 8) (.v (.int .u8 (IntKind.u8.wrap (Int.tdiv (b.getD 13 0) 64)))) QOk.ctxG (by kernel_rfl) (by kernel_rfl) (by kernel_rfl) (by kernel_rfl) (by kernel_rfl) ?_
                refine XD.take (i := 9) (l' := (lb 12 1023)) (oA B39 [1, 1, 1, 1, 0] 9) (.v (.int .u8 (IntKind.u8.wrap ((IntKind.u8.wrap ((Int.tmod (b.getD 12 0) 2) * 4)) + (IntKind.u8.wrap (Int.tdiv (b.getD 13 0) 64)))))) QOk.ctxG (by kernel_rfl) (by kernel_rfl) (by kernel_rfl) (by kernel_rfl) (by kernel_rfl) ?_
                refine XD.take (i := 10) (l' := (lb 12 2047)) (oA B39 [1, 1, 1, 1, 0] 10) (.own 4 5) QOk.ctxG (by kernel_rfl) (by kernel_rfl) (by kernel_rfl) (by kernel_rfl) (by kernel_rfl) ?_
                refine XD.norm [2, 3, 4, 66, 67] [2, 4] ⟨69, [(2, .own 2 0), (3, .v (.int .i64 0)), (4, .own 4 0), (66, .v (.int .u8 (IntKind.u8.wrap ((IntKind.u8.wrap ((Int.tmod (b.getD 12 0) 2) * 4)) + (IntKind.u8.wrap (Int.tdiv (b.getD 13 0) 64)))))), (67, .own 4 5)], [(2, ⟨31, [.v (.int .u16 0), .v (.int .u16 0), .v (.int .u32 0), .v (.int .u32 0), .v (.int .u8 0), .v (.int .u8 0), .v (.int .u8 0), .v (.int .u16 0), .v (.int .u16 0), .v (.int .u16 0)]⟩), (4, ⟨31, [.v (.int .u16 (IntKind.u16.wrap (numB ys11))), .v (.int .u16 (IntKind.u16.wrap (numB ys12))), .v (.int .u32 (numB ys13)), .v (.int .u32 (numB ys14)), .v (.int .u8 (IntKind.u8.wrap (Int.tdiv (b.getD 12 0) 16))), .v (.int .u8 0), .v (.int .u8 (Int.tmod (b.getD 13 0) 64)), .v (.int .u16 (IntKind.u16.wrap (numB ys21))), .v (.int .u16 (IntKind.u16.wrap (numB ys22))), .v (.int .u16 (IntKind.u16.wrap (numB ys23)))]⟩)]⟩ (by kernel_rfl) trivial ?_
                refine XD.one (i := 11) (l' := (lb 12 4095)) (oA B39 [1, 1, 1, 1, 0] 11) (by kernel_rfl) (by kernel_rfl) (by kernel_rfl) ?_
                refine X.simple (by kernel_rfl) ?_
                refine X.back ⟨trivial, Le.refl _, rfl, ?_⟩
                refine XD.done (by kernel_rfl) ?_
                refine X.run 9 [2, 3] [2] (.ex .ret) [] ⟨69, [(2, .own 2 0), (3, .v (.int .i64 0))], [(2, ⟨31, [.v (.int .u16 (IntKind.u16.wrap (numB ys11))), .v (.int .u16 (IntKind.u16.wrap (numB ys12))), .v (.int .u32 (numB ys13)), .v (.int .u32 (numB ys14)), .v (.int .u8 (IntKind.u8.wrap (Int.tdiv (b.getD 12 0) 16))), .v (.int .u8 (IntKind.u8.wrap ((IntKind.u8.wrap ((Int.tmod (b.getD 12 0) 2) * 4)) + (IntKind.u8.wrap (Int.tdiv (b.getD 13 0) 64))))), .v (.int .u8 (Int.tmod (b.getD 13 0) 64)), .v (.int .u16 (IntKind.u16.wrap (numB ys21))), .v (.int .u16 (IntKind.u16.wrap (numB ys22))), .v (.int .u16 (IntKind.u16.wrap (numB ys23)))]⟩)]⟩ (by kernel_rfl) ?_
                refine doneG (.inl rfl) [.agg #[.int .u16 (IntKind.u16.wrap (numB ys11)), .int .u16 (IntKind.u16.wrap (numB ys12)), .int .u32 (numB ys13), .int .u32 (numB ys14), .int .u8 (IntKind.u8.wrap (Int.tdiv (b.getD 12 0) 16)), .int .u8 (IntKind.u8.wrap ((IntKind.u8.wrap ((Int.tmod (b.getD 12 0) 2) * 4)) + (IntKind.u8.wrap (Int.tdiv (b.getD 13 0) 64)))), .int .u8 (Int.tmod (b.getD 13 0) 64), .int .u16 (IntKind.u16.wrap (numB ys21)), .int .u16 (IntKind.u16.wrap (numB ys22)), .int .u16 (IntKind.u16.wrap (numB ys23))], .int .i64 0] [] (by kernel_rfl) rfl rfl (((((((hG24.trans hG25).trans hG26).trans hG65).trans hG66).trans hG67).trans hG68)) ?_
                -- end 8 (FFF)
                subst hys11 hys12 hys13 hys14 hys21 hys22 hys23
                exact ⟨fun h => absurd h (by omega), fun h => absurd h.2 (by intro hh; rcases hh with hh | hh <;> contradiction), fun _ => rfl, rfl⟩
            · -- 35 first
              refine X.simple (by kernel_rfl) ?_
              refine X.back ⟨trivial, (hG24.trans hG25).le, rfl, ?_⟩
              refine XD.norm [0, 2, 3, 4, 25, 29, 31, 34, 39, 43, 45, 49, 53] [2, 4] ⟨69, [(0, .v (.slice A b.length c)), (2, .own 2 0), (3, .v (.int .i64 0)), (4, .own 4 0), (25, .v (.int .u16 (IntKind.u16.wrap (numB ys11)))), (29, .v (.int .u16 (IntKind.u16.wrap (numB ys12)))), (31, .v (.slice A13 ys13.length (c - 4))), (34, .v (.slice A14 ys14.length (c - 8))), (39, .v (.int .u8 (IntKind.u8.wrap (Int.tdiv (b.getD 12 0) 16)))), (43, .v (.int .u8 (Int.tmod (b.getD 13 0) 64))), (45, .v (.slice A21 ys21.length (c - 14))), (49, .v (.slice A22 ys22.length (c - 16))), (53, .v (.slice A23 ys23.length (c - 18)))], [(2, ⟨31, [.v (.int .u16 0), .v (.int .u16 0), .v (.int .u32 0), .v (.int .u32 0), .v (.int .u8 0), .v (.int .u8 0), .v (.int .u8 0), .v (.int .u16 0), .v (.int .u16 0), .v (.int .u16 0)]⟩), (4, ⟨31, [.v (.int .u16 0), .v (.int .u16 0), .v (.int .u32 0), .v (.int .u32 0), .v (.int .u8 0), .v (.int .u8 0), .v (.int .u8 0), .v (.int .u16 0), .v (.int .u16 0), .v (.int .u16 0)]⟩)]⟩ (by kernel_rfl) trivial ?_
              refine XD.one (i := 10) (l' := (lb 37 37799059455)) (oA B39 [1, 1, 1, 0] 10) (by kernel_rfl) (by kernel_rfl) (by kernel_rfl) ?_
              refine X.callG (f := 101) (l := [.v (.slice A13 ys13.length (c - 4))]) [.slice A13 ys13.length (c - 4)] 0 (by kernel_rfl) (by kernel_rfl) (by kernel_rfl) (num_ok _ _ ys13 _ hr13 hc13 hm13 (by omega)) ?_
              rintro v76 G76 rows76 hG76 ⟨rfl, rfl⟩
              replace hb := hb.mono hG76.le
              replace hr11 := hr11.mono hG76.le
              replace hr12 := hr12.mono hG76.le
              replace hr13 := hr13.mono hG76.le
              replace hr14 := hr14.mono hG76.le
              replace hr21 := hr21.mono hG76.le
              replace hr22 := hr22.mono hG76.le
              replace hr23 := hr23.mono hG76.le
              refine X.back ⟨trivial, ((hG24.trans hG25).trans hG76).le, rfl, ?_⟩
              refine XD.norm [0, 2, 3, 4, 25, 29, 32, 34, 39, 43, 45, 49, 53] [2, 4] ⟨69, [(0, .v (.slice A b.length c)), (2, .own 2 0), (3, .v (.int .i64 0)), (4, .own 4 0), (25, .v (.int .u16 (IntKind.u16.wrap (numB ys11)))), (29, .v (.int .u16 (IntKind.u16.wrap (numB ys12)))), (32, .v (.int .u32 (numB ys13))), (34, .v (.slice A14 ys14.length (c - 8))), (39, .v (.int .u8 (IntKind.u8.wrap (Int.tdiv (b.getD 12 0) 16)))), (43, .v (.int .u8 (Int.tmod (b.getD 13 0) 64))), (45, .v (.slice A21 ys21.length (c - 14))), (49, .v (.slice A22 ys22.length (c - 16))), (53, .v (.slice A23 ys23.length (c - 18)))], [(2, ⟨31, [.v (.int .u16 0), .v (.int .u16 0), .v (.int .u32 0), .v (.int .u32 0), .v (.int .u8 0), .v (.int .u8 0), .v (.int .u8 0), .v (.int .u16 0), .v (.int .u16 0), .v (.int .u16 0)]⟩), (4, ⟨31, [.v (.int .u16 0), .v (.int .u16 0), .v (.int .u32 0), .v (.int .u32 0), .v (.int .u8 0), .v (.int .u8 0), .v (.int .u8 0), .v (.int .u16 0), .v (.int .u16 0), .v (.int .u16 0)]⟩)]⟩ (by kernel_rfl) trivial ?_
              refine XD.one (i := 13) (l' := (lb 37 37799067647)) (oA B39 [1, 1, 1, 0] 13) (by kernel_rfl) (by kernel_rfl) (by kernel_rfl) ?_
              refine X.callG (f := 101) (l := [.v (.slice A14 ys14.length (c - 8))]) [.slice A14 ys14.length (c - 8)] 0 (by kernel_rfl) (by kernel_rfl) (by kernel_rfl) (num_ok _ _ ys14 _ hr14 hc14 hm14 (by omega)) ?_
              rintro v77 G77 rows77 hG77 ⟨rfl, rfl⟩
              replace hb := hb.mono hG77.le
              replace hr11 := hr11.mono hG77.le
              replace hr12 := hr12.mono hG77.le
              replace hr13 := hr13.mono hG77.le
              replace hr14 := hr14.mono hG77.le
              replace hr21 := hr21.mono hG77.le
              replace hr22 := hr22.mono hG77.le
              replace hr23 := hr23.mono hG77.le
              refine X.back ⟨trivial, (((hG24.trans hG25).trans hG76).trans hG77).le, rfl, ?_⟩
              refine XD.norm [0, 2, 3, 4, 25, 29, 32, 35, 39, 43, 45, 49, 53] [2, 4] ⟨69, [(0, .v (.slice A b.length c)), (2, .own 2 0), (3, .v (.int .i64 0)), (4, .own 4 0), (25, .v (.int .u16 (IntKind.u16.wrap (numB ys11)))), (29, .v (.int .u16 (IntKind.u16.wrap (numB ys12)))), (32, .v (.int .u32 (numB ys13))), (35, .v (.int .u32 (numB ys14))), (39, .v (.int .u8 (IntKind.u8.wrap (Int.tdiv (b.getD 12 0) 16)))), (43, .v (.int .u8 (Int.tmod (b.getD 13 0) 64))), (45, .v (.slice A21 ys21.length (c - 14))), (49, .v (.slice A22 ys22.length (c - 16))), (53, .v (.slice A23 ys23.length (c - 18)))], [(2, ⟨31, [.v (.int .u16 0), .v (.int .u16 0), .v (.int .u32 0), .v (.int .u32 0), .v (.int .u8 0), .v (.int .u8 0), .v (.int .u8 0), .v (.int .u16 0), .v (.int .u16 0), .v (.int .u16 0)]⟩), (4, ⟨31, [.v (.int .u16 0), .v (.int .u16 0), .v (.int .u32 0), .v (.int .u32 0), .v (.int .u8 0), .v (.int .u8 0), .v (.int .u8 0), .v (.int .u16 0), .v (.int .u16 0), .v (.int .u16 0)]⟩)]⟩ (by kernel_rfl) trivial ?_
              refine XD.one (i := 24) (l' := (lb 37 37815844863)) (oA B39 [1, 1, 1, 0] 24) (by kernel_rfl) (by kernel_rfl) (by kernel_rfl) ?_
              refine X.callG (f := 101) (l := [.v (.slice A21 ys21.length (c - 14))]) [.slice A21 ys21.length (c - 14)] 0 (by kernel_rfl) (by kernel_rfl) (by kernel_rfl) (num_ok _ _ ys21 _ hr21 hc21 hm21 (by omega)) ?_
              rintro v78 G78 rows78 hG78 ⟨rfl, rfl⟩
              replace hb := hb.mono hG78.le
              replace hr11 := hr11.mono hG78.le
              replace hr12 := hr12.mono hG78.le
              replace hr13 := hr13.mono hG78.le
              replace hr14 := hr14.mono hG78.le
              replace hr21 := hr21.mono hG78.le
              replace hr22 := hr22.mono hG78.le
              replace hr23 := hr23.mono hG78.le
              refine X.back ⟨trivial, ((((hG24.trans hG25).trans hG76).trans hG77).trans hG78).le, rfl, ?_⟩
              refine XD.take (i := 25) (l' := (lb 37 37849399295)) (oA B39 [1, 1, 1, 0] 25) (.v (.int .u16 (IntKind.u16.wrap (numB ys21)))) QOk.ctxG (by kernel_rfl) (by kernel_rfl) (by kernel_rfl) (by kernel_rfl) (by kernel_rfl) ?_
              refine XD.norm [0, 2, 3, 4, 25, 29, 32, 35, 39, 43, 47, 49, 53] [2, 4] ⟨69, [(0, .v (.slice A b.length c)), (2, .own 2 0), (3, .v (.int .i64 0)), (4, .own 4 0), (25, .v (.int .u16 (IntKind.u16.wrap (numB ys11)))), (29, .v (.int .u16 (IntKind.u16.wrap (numB ys12)))), (32, .v (.int .u32 (numB ys13))), (35, .v (.int .u32 (numB ys14))), (39, .v (.int .u8 (IntKind.u8.wrap (Int.tdiv (b.getD 12 0) 16)))), (43, .v (.int .u8 (Int.tmod (b.getD 13 0) 64))), (47, .v (.int .u16 (IntKind.u16.wrap (numB ys21)))), (49, .v (.slice A22 ys22.length (c - 16))), (53, .v (.slice A23 ys23.length (c - 18)))], [(2, ⟨31, [.v (.int .u16 0), .v (.int .u16 0), .v (.int .u32 0), .v (.int .u32 0), .v (.int .u8 0), .v (.int .u8 0), .v (.int .u8 0), .v (.int .u16 0), .v (.int .u16 0), .v (.int .u16 0)]⟩), (4, ⟨31, [.v (.int .u16 0), .v (.int .u16 0), .v (.int .u32 0), .v (.int .u32 0), .v (.int .u8 0), .v (.int .u8 0), .v (.int .u8 0), .v (.int .u16 0), .v (.int .u16 0), .v (.int .u16 0)]⟩)]⟩ (by kernel_rfl) trivial ?_
              refine XD.one (i := 28) (l' := (lb 37 38117834751)) (oA B39 [1, 1, 1, 0] 28) (by kernel_rfl) (by kernel_rfl) (by kernel_rfl) ?_
              refine X.callG (f := 101) (l := [.v (.slice A22 ys22.length (c - 16))]) [.slice A22 ys22.length (c - 16)] 0 (by kernel_rfl) (by kernel_rfl) (by kernel_rfl) (num_ok _ _ ys22 _ hr22 hc22 hm22 (by omega)) ?_
              rintro v79 G79 rows79 hG79 ⟨rfl, rfl⟩
              replace hb := hb.mono hG79.le
              replace hr11 := hr11.mono hG79.le
              replace hr12 := hr12.mono hG79.le
              replace hr13 := hr13.mono hG79.le
              replace hr14 := hr14.mono hG79.le
              replace hr21 := hr21.mono hG79.le
              replace hr22 := hr22.mono hG79.le
              replace hr23 := hr23.mono hG79.le
              refine X.back ⟨trivial, (((((hG24.trans hG25).trans hG76).trans hG77).trans hG78).trans hG79).le, rfl, ?_⟩
              refine XD.take (i := 29) (l' := (lb 37 38654705663)) (oA B39 [1, 1, 1, 0] 29) (.v (.int .u16 (IntKind.u16.wrap (numB ys22)))) QOk.ctxG (by kernel_rfl) (by kernel_rfl) (by kernel_rfl) (by kernel_rfl) (by kernel_rfl) ?_
              refine XD.norm [0, 2, 3, 4, 25, 29, 32, 35, 39, 43, 47, 51, 53] [2, 4] ⟨69, [(0, .v (.slice A b.length c)), (2, .own 2 0), (3, .v (.int .i64 0)), (4, .own 4 0), (25, .v (.int .u16 (IntKind.u16.wrap (numB ys11)))), (29, .v (.int .u16 (IntKind.u16.wrap (numB ys12)))), (32, .v (.int .u32 (numB ys13))), (35, .v (.int .u32 (numB ys14))), (39, .v (.int .u8 (IntKind.u8.wrap (Int.tdiv (b.getD 12 0) 16)))), (43, .v (.int .u8 (Int.tmod (b.getD 13 0) 64))), (47, .v (.int .u16 (IntKind.u16.wrap (numB ys21)))), (51, .v (.int .u16 (IntKind.u16.wrap (numB ys22)))), (53, .v (.slice A23 ys23.length (c - 18)))], [(2, ⟨31, [.v (.int .u16 0), .v (.int .u16 0), .v (.int .u32 0), .v (.int .u32 0), .v (.int .u8 0), .v (.int .u8 0), .v (.int .u8 0), .v (.int .u16 0), .v (.int .u16 0), .v (.int .u16 0)]⟩), (4, ⟨31, [.v (.int .u16 0), .v (.int .u16 0), .v (.int .u32 0), .v (.int .u32 0), .v (.int .u8 0), .v (.int .u8 0), .v (.int .u8 0), .v (.int .u16 0), .v (.int .u16 0), .v (.int .u16 0)]⟩)]⟩ (by kernel_rfl) trivial ?_
              refine XD.one (i := 32) (l' := (lb 37 42949672959)) (oA B39 [1, 1, 1, 0] 32) (by kernel_rfl) (by kernel_rfl) (by kernel_rfl) ?_
              refine X.callG (f := 101) (l := [.v (.slice A23 ys23.length (c - 18))]) [.slice A23 ys23.length (c - 18)] 0 (by kernel_rfl) (by kernel_rfl) (by kernel_rfl) (num_ok _ _ ys23 _ hr23 hc23 hm23 (by omega)) ?_
              rintro v80 G80 rows80 hG80 ⟨rfl, rfl⟩
              replace hb := hb.mono hG80.le
              replace hr11 := hr11.mono hG80.le
              replace hr12 := hr12.mono hG80.le
              replace hr13 := hr13.mono hG80.le
              replace hr14 := hr14.mono hG80.le
              replace hr21 := hr21.mono hG80.le
              replace hr22 := hr22.mono hG80.le
              replace hr23 := hr23.mono hG80.le
              refine X.back ⟨trivial, ((((((hG24.trans hG25).trans hG76).trans hG77).trans hG78).trans hG79).trans hG80).le, rfl, ?_⟩
              refine XD.take (i := 33) (l' := (lb 37 51539607551)) (oA B39 [1, 1, 1, 0] 33) (.v (.int .u16 (IntKind.u16.wrap (numB ys23)))) QOk.ctxG (by kernel_rfl) (by kernel_rfl) (by kernel_rfl) (by kernel_rfl) (by kernel_rfl) ?_
              refine XD.take (i := 34) (l' := (lb 37 68719476735)) (oA B39 [1, 1, 1, 0] 34) (.v (.agg #[.int .u16 (IntKind.u16.wrap (numB ys11)), .int .u16 (IntKind.u16.wrap (numB ys12)), .int .u32 (numB ys13), .int .u32 (numB ys14), .int .u8 (IntKind.u8.wrap (Int.tdiv (b.getD 12 0) 16)), .int .u8 0, .int .u8 (Int.tmod (b.getD 13 0) 64), .int .u16 (IntKind.u16.wrap (numB ys21)), .int .u16 (IntKind.u16.wrap (numB ys22)), .int .u16 (IntKind.u16.wrap (numB ys23))])) QOk.ctxG (by kernel_rfl) (by kernel_rfl) (by kernel_rfl) (by kernel_rfl) (by kernel_rfl) ?_
              refine XD.norm [0, 2, 3, 4, 56] [2, 4] ⟨69, [(0, .v (.slice A b.length c)), (2, .own 2 0), (3, .v (.int .i64 0)), (4, .own 4 0), (56, .v (.agg #[.int .u16 (IntKind.u16.wrap (numB ys11)), .int .u16 (IntKind.u16.wrap (numB ys12)), .int .u32 (numB ys13), .int .u32 (numB ys14), .int .u8 (IntKind.u8.wrap (Int.tdiv (b.getD 12 0) 16)), .int .u8 0, .int .u8 (Int.tmod (b.getD 13 0) 64), .int .u16 (IntKind.u16.wrap (numB ys21)), .int .u16 (IntKind.u16.wrap (numB ys22)), .int .u16 (IntKind.u16.wrap (numB ys23))]))], [(2, ⟨31, [.v (.int .u16 0), .v (.int .u16 0), .v (.int .u32 0), .v (.int .u32 0), .v (.int .u8 0), .v (.int .u8 0), .v (.int .u8 0), .v (.int .u16 0), .v (.int .u16 0), .v (.int .u16 0)]⟩), (4, ⟨31, [.v (.int .u16 0), .v (.int .u16 0), .v (.int .u32 0), .v (.int .u32 0), .v (.int .u8 0), .v (.int .u8 0), .v (.int .u8 0), .v (.int .u16 0), .v (.int .u16 0), .v (.int .u16 0)]⟩)]⟩ (by kernel_rfl) trivial ?_
              refine XD.one (i := 36) (l' := (lb 37 137438953471)) (oA B39 [1, 1, 1, 0] 36) (by kernel_rfl) (by kernel_rfl) (by kernel_rfl) ?_
              refine X.simple (by kernel_rfl) ?_
              refine X.back ⟨trivial, ((((((hG24.trans hG25).trans hG76).trans hG77).trans hG78).trans hG79).trans hG80).le, rfl, ?_⟩
              refine XD.done (by kernel_rfl) ?_
              refine X.run 2 [0, 2, 3, 4] [2, 4] (.code (cA B39 [1, 1, 1, 1, 0])) [.seq (cA B39 [1, 1, 1, 1, 1])] ⟨69, [(0, .v (.slice A b.length c)), (2, .own 2 0), (3, .v (.int .i64 0)), (4, .own 4 0)], [(2, ⟨31, [.v (.int .u16 0), .v (.int .u16 0), .v (.int .u32 0), .v (.int .u32 0), .v (.int .u8 0), .v (.int .u8 0), .v (.int .u8 0), .v (.int .u16 0), .v (.int .u16 0), .v (.int .u16 0)]⟩), (4, ⟨31, [.v (.int .u16 (IntKind.u16.wrap (numB ys11))), .v (.int .u16 (IntKind.u16.wrap (numB ys12))), .v (.int .u32 (numB ys13)), .v (.int .u32 (numB ys14)), .v (.int .u8 (IntKind.u8.wrap (Int.tdiv (b.getD 12 0) 16))), .v (.int .u8 0), .v (.int .u8 (Int.tmod (b.getD 13 0) 64)), .v (.int .u16 (IntKind.u16.wrap (numB ys21))), .v (.int .u16 (IntKind.u16.wrap (numB ys22))), .v (.int .u16 (IntKind.u16.wrap (numB ys23)))]⟩)]⟩ (by kernel_rfl) ?_
              have hb_d81 := hb
              have hr11_d81 := hr11
              have hr12_d81 := hr12
              have hr13_d81 := hr13
              have hr14_d81 := hr14
              have hr21_d81 := hr21
              have hr22_d81 := hr22
              have hr23_d81 := hr23
              refine XD.open (id := 6) (arr := aA B39 [1, 1, 1, 1, 0]) 12 [] [] [] (by kernel_rfl) (by kernel_rfl) (by kernel_rfl) (by kernel_rfl) (by kernel_rfl) trivial (by simp) rfl (fun ρ0 => ?_)
              refine XD.take (i := 0) (l' := (lb 12 1)) (oA B39 [1, 1, 1, 1, 0] 0) (.v (.slice A b.length c)) QOk.ctxG (by kernel_rfl) (by kernel_rfl) (by kernel_rfl) (by kernel_rfl) (by kernel_rfl) ?_
              have b82 : (0 : Int) ≤ 12 := by omega
              have b83 : 12 < ((b.length : Nat) : Int) := by omega
              obtain ⟨at84, lo84, hi84⟩ := At.int [] hb_d81 12 (by omega)
              simp only [IntKind.lo, IntKind.hi] at lo84 hi84
              refine XD.index (i := 1) (l' := (lb 12 3)) (o := (oA B39 [1, 1, 1, 1, 0] 1)) (t := 22) (e := 5) (sz := 1) (A := A) (n := b.length) (c := c) (ki := .i64) (j := 12) (x := .tmp 57) (ix := .const (.int .i64 12)) QOk.ctxG (by kernel_rfl) (by kernel_rfl) (by kernel_rfl) (by kernel_rfl) (by kernel_rfl) (by kernel_rfl) (by kernel_rfl) (by kernel_rfl) b82 b83 (fun _ _ => rowAt.so hb_d81 (by omega)) (by kernel_rfl) ?_
              refine XD.load (i := 2) (l' := (lb 12 7)) (o := (oA B39 [1, 1, 1, 1, 0] 2)) (t := 5) (A := A) (j := 12 * 1) (x := .tmp 58) (z := .int .u8 (b.getD 12 0)) [.int .u8 (b.getD 12 0)] QOk.ctxG (by kernel_rfl) (by kernel_rfl) (by kernel_rfl) (by kernel_rfl) (by kernel_rfl) at84 (by kernel_rfl) (by kernel_rfl) ?_
              refine XD.take (i := 3) (l' := (lb 12 15)) (oA B39 [1, 1, 1, 1, 0] 3) (.v (.int .u8 (Int.tmod (b.getD 12 0) 2))) QOk.ctxG (by kernel_rfl) (by kernel_rfl) (by kernel_rfl) (by kernel_rfl) (by kernel_rfl) ?_
              refine XD.take (i := 4) (l' := (lb 12 31)) (oA B39 [1, 1, 1, 1, 0] 4) (.v (.int .u8 (IntKind.u8.wrap ((Int.tmod (b.getD 12 0) 2) * 4)))) QOk.ctxG (by kernel_rfl) (by kernel_rfl) (by kernel_rfl) (by kernel_rfl) (by kernel_rfl) ?_
              refine XD.take (i := 5) (l' := (lb 12 63)) (oA B39 [1, 1, 1, 1, 0] 5) (.v (.slice A b.length c)) QOk.ctxG (by kernel_rfl) (by kernel_rfl) (by kernel_rfl) (by kernel_rfl) (by kernel_rfl) ?_
              have b85 : (0 : Int) ≤ 13 := by omega
              have b86 : 13 < ((b.length : Nat) : Int) := by omega
              obtain ⟨at87, lo87, hi87⟩ := At.int [] hb_d81 13 (by omega)
              simp only [IntKind.lo, IntKind.hi] at lo87 hi87
              refine XD.index (i := 6) (l' := (lb 12 127)) (o := (oA B39 [1, 1, 1, 1, 0] 6)) (t := 22) (e := 5) (sz := 1) (A := A) (n := b.length) (c := c) (ki := .i64) (j := 13) (x := .tmp 62) (ix := .const (.int .i64 13)) QOk.ctxG (by kernel_rfl) (by kernel_rfl) (by kernel_rfl) (by kernel_rfl) (by kernel_rfl) (by kernel_rfl) (by kernel_rfl) (by kernel_rfl) b85 b86 (fun _ _ => rowAt.so hb_d81 (by omega)) (by kernel_rfl) ?_
              refine XD.load (i := 7) (l' := (lb 12 255)) (o := (oA B39 [1, 1, 1, 1, 0] 7)) (t := 5) (A := A) (j := 13 * 1) (x := .tmp 63) (z := .int .u8 (b.getD 13 0)) [.int .u8 (b.getD 13 0)] QOk.ctxG (by kernel_rfl) (by kernel_rfl) (by kernel_rfl) (by kernel_rfl) (by kernel_rfl) at87 (by kernel_rfl) (by kernel_rfl) ?_
              refine XD.take (i := 8) (l' := (lb 12 511)) (oA B39 [1, 1, 1, 1, 0] 8) (.v (.int .u8 (IntKind.u8.wrap (Int.tdiv (b.getD 13 0) 64)))) QOk.ctxG (by kernel_rfl) (by kernel_rfl) (by kernel_rfl) (by kernel_rfl) (by kernel_rfl) ?_
              refine XD.take (i := 9) (l' := (lb 12 1023)) (oA B39 [1, 1, 1, 1, 0] 9) (.v (.int .u8 (IntKind.u8.wrap ((IntKind.u8.wrap ((Int.tmod (b.getD 12 0) 2) * 4)) + (IntKind.u8.wrap (Int.tdiv (b.getD 13 0) 64)))))) QOk.ctxG (by kernel_rfl) (by kernel_rfl) (by kernel_rfl) (by kernel_rfl) (by kernel_rfl) ?_
              refine XD.take (i := 10) (l' := (lb 12 2047)) (oA B39 [1, 1, 1, 1, 0] 10) (.own 4 5) QOk.ctxG (by kernel_rfl) (by kernel_rfl) (by kernel_rfl) (by kernel_rfl) (by kernel_rfl) ?_
              refine XD.norm [2, 3, 4, 66, 67] [2, 4] ⟨69, [(2, .own 2 0), (3, .v (.int .i64 0)), (4, .own 4 0), (66, .v (.int .u8 (IntKind.u8.wrap ((IntKind.u8.wrap ((Int.tmod (b.getD 12 0) 2) * 4)) + (IntKind.u8.wrap (Int.tdiv (b.getD 13 0) 64)))))), (67, .own 4 5)], [(2, ⟨31, [.v (.int .u16 0), .v (.int .u16 0), .v (.int .u32 0), .v (.int .u32 0), .v (.int .u8 0), .v (.int .u8 0), .v (.int .u8 0), .v (.int .u16 0), .v (.int .u16 0), .v (.int .u16 0)]⟩), (4, ⟨31, [.v (.int .u16 (IntKind.u16.wrap (numB ys11))), .v (.int .u16 (IntKind.u16.wrap (numB ys12))), .v (.int .u32 (numB ys13)), .v (.int .u32 (numB ys14)), .v (.int .u8 (IntKind.u8.wrap (Int.tdiv (b.getD 12 0) 16))), .v (.int .u8 0), .v (.int .u8 (Int.tmod (b.getD 13 0) 64)), .v (.int .u16 (IntKind.u16.wrap (numB ys21))), .v (.int .u16 (IntKind.u16.wrap (numB ys22))), .v (.int .u16 (IntKind.u16.wrap (numB ys23)))]⟩)]⟩ (by kernel_rfl) trivial ?_
              refine XD.one (i := 11) (l' := (lb 12 4095)) (oA B39 [1, 1, 1, 1, 0] 11) (by kernel_rfl) (by kernel_rfl) (by kernel_rfl) ?_
              refine X.simple (by kernel_rfl) ?_
              refine X.back ⟨trivial, Le.refl _, rfl, ?_⟩
              refine XD.done (by kernel_rfl) ?_
              refine X.run 9 [2, 3] [2] (.ex .ret) [] ⟨69, [(2, .own 2 0), (3, .v (.int .i64 0))], [(2, ⟨31, [.v (.int .u16 (IntKind.u16.wrap (numB ys11))), .v (.int .u16 (IntKind.u16.wrap (numB ys12))), .v (.int .u32 (numB ys13)), .v (.int .u32 (numB ys14)), .v (.int .u8 (IntKind.u8.wrap (Int.tdiv (b.getD 12 0) 16))), .v (.int .u8 (IntKind.u8.wrap ((IntKind.u8.wrap ((Int.tmod (b.getD 12 0) 2) * 4)) + (IntKind.u8.wrap (Int.tdiv (b.getD 13 0) 64))))), .v (.int .u8 (Int.tmod (b.getD 13 0) 64)), .v (.int .u16 (IntKind.u16.wrap (numB ys21))), .v (.int .u16 (IntKind.u16.wrap (numB ys22))), .v (.int .u16 (IntKind.u16.wrap (numB ys23)))]⟩)]⟩ (by kernel_rfl) ?_
              refine doneG (.inl rfl) [.agg #[.int .u16 (IntKind.u16.wrap (numB ys11)), .int .u16 (IntKind.u16.wrap (numB ys12)), .int .u32 (numB ys13), .int .u32 (numB ys14), .int .u8 (IntKind.u8.wrap (Int.tdiv (b.getD 12 0) 16)), .int .u8 (IntKind.u8.wrap ((IntKind.u8.wrap ((Int.tmod (b.getD 12 0) 2) * 4)) + (IntKind.u8.wrap (Int.tdiv (b.getD 13 0) 64)))), .int .u8 (Int.tmod (b.getD 13 0) 64), .int .u16 (IntKind.u16.wrap (numB ys21)), .int .u16 (IntKind.u16.wrap (numB ys22)), .int .u16 (IntKind.u16.wrap (numB ys23))], .int .i64 0] [] (by kernel_rfl) rfl rfl (((((((hG24.trans hG25).trans hG76).trans hG77).trans hG78).trans hG79).trans hG80)) ?_
              -- end 9 (FFF)
              subst hys11 hys12 hys13 hys14 hys21 hys22 hys23
              exact ⟨fun h => absurd h (by omega), fun h => absurd h.2 (by intro hh; rcases hh with hh | hh <;> contradiction), fun _ => rfl, rfl⟩
          · -- 35 first
            refine X.simple (by kernel_rfl) ?_
            refine X.back ⟨trivial, hG24.le, rfl, ?_⟩
            refine XD.norm [0, 2, 3, 4, 25, 27, 31, 34, 39, 43, 45, 49, 53] [2, 4] ⟨69, [(0, .v (.slice A b.length c)), (2, .own 2 0), (3, .v (.int .i64 0)), (4, .own 4 0), (25, .v (.int .u16 (IntKind.u16.wrap (numB ys11)))), (27, .v (.slice A12 ys12.length (c - 2))), (31, .v (.slice A13 ys13.length (c - 4))), (34, .v (.slice A14 ys14.length (c - 8))), (39, .v (.int .u8 (IntKind.u8.wrap (Int.tdiv (b.getD 12 0) 16)))), (43, .v (.int .u8 (Int.tmod (b.getD 13 0) 64))), (45, .v (.slice A21 ys21.length (c - 14))), (49, .v (.slice A22 ys22.length (c - 16))), (53, .v (.slice A23 ys23.length (c - 18)))], [(2, ⟨31, [.v (.int .u16 0), .v (.int .u16 0), .v (.int .u32 0), .v (.int .u32 0), .v (.int .u8 0), .v (.int .u8 0), .v (.int .u8 0), .v (.int .u16 0), .v (.int .u16 0), .v (.int .u16 0)]⟩), (4, ⟨31, [.v (.int .u16 0), .v (.int .u16 0), .v (.int .u32 0), .v (.int .u32 0), .v (.int .u8 0), .v (.int .u8 0), .v (.int .u8 0), .v (.int .u16 0), .v (.int .u16 0), .v (.int .u16 0)]⟩)]⟩ (by kernel_rfl) trivial ?_
            refine XD.one (i := 6) (l' := (lb 37 37799058303)) (oA B39 [1, 1, 1, 0] 6) (by kernel_rfl) (by kernel_rfl) (by kernel_rfl) ?_
            refine X.callG (f := 101) (l := [.v (.slice A12 ys12.length (c - 2))]) [.slice A12 ys12.length (c - 2)] 0 (by kernel_rfl) (by kernel_rfl) (by kernel_rfl) (num_ok _ _ ys12 _ hr12 hc12 hm12 (by omega)) ?_
            rintro v88 G88 rows88 hG88 ⟨rfl, rfl⟩
            replace hb := hb.mono hG88.le
            replace hr11 := hr11.mono hG88.le
            replace hr12 := hr12.mono hG88.le
            replace hr13 := hr13.mono hG88.le
            replace hr14 := hr14.mono hG88.le
            replace hr21 := hr21.mono hG88.le
            replace hr22 := hr22.mono hG88.le
            replace hr23 := hr23.mono hG88.le
            refine X.back ⟨trivial, (hG24.trans hG88).le, rfl, ?_⟩
            refine XD.take (i := 7) (l' := (lb 37 37799058431)) (oA B39 [1, 1, 1, 0] 7) (.v (.int .u16 (IntKind.u16.wrap (numB ys12)))) QOk.ctxG (by kernel_rfl) (by kernel_rfl) (by kernel_rfl) (by kernel_rfl) (by kernel_rfl) ?_
            refine XD.norm [0, 2, 3, 4, 25, 29, 31, 34, 39, 43, 45, 49, 53] [2, 4] ⟨69, [(0, .v (.slice A b.length c)), (2, .own 2 0), (3, .v (.int .i64 0)), (4, .own 4 0), (25, .v (.int .u16 (IntKind.u16.wrap (numB ys11)))), (29, .v (.int .u16 (IntKind.u16.wrap (numB ys12)))), (31, .v (.slice A13 ys13.length (c - 4))), (34, .v (.slice A14 ys14.length (c - 8))), (39, .v (.int .u8 (IntKind.u8.wrap (Int.tdiv (b.getD 12 0) 16)))), (43, .v (.int .u8 (Int.tmod (b.getD 13 0) 64))), (45, .v (.slice A21 ys21.length (c - 14))), (49, .v (.slice A22 ys22.length (c - 16))), (53, .v (.slice A23 ys23.length (c - 18)))], [(2, ⟨31, [.v (.int .u16 0), .v (.int .u16 0), .v (.int .u32 0), .v (.int .u32 0), .v (.int .u8 0), .v (.int .u8 0), .v (.int .u8 0), .v (.int .u16 0), .v (.int .u16 0), .v (.int .u16 0)]⟩), (4, ⟨31, [.v (.int .u16 0), .v (.int .u16 0), .v (.int .u32 0), .v (.int .u32 0), .v (.int .u8 0), .v (.int .u8 0), .v (.int .u8 0), .v (.int .u16 0), .v (.int .u16 0), .v (.int .u16 0)]⟩)]⟩ (by kernel_rfl) trivial ?_
            refine XD.one (i := 10) (l' := (lb 37 37799059455)) (oA B39 [1, 1, 1, 0] 10) (by kernel_rfl) (by kernel_rfl) (by kernel_rfl) ?_
            refine X.callG (f := 101) (l := [.v (.slice A13 ys13.length (c - 4))]) [.slice A13 ys13.length (c - 4)] 0 (by kernel_rfl) (by kernel_rfl) (by kernel_rfl) (num_ok _ _ ys13 _ hr13 hc13 hm13 (by omega)) ?_
            rintro v89 G89 rows89 hG89 ⟨rfl, rfl⟩
            replace hb := hb.mono hG89.le
            replace hr11 := hr11.mono hG89.le
            replace hr12 := hr12.mono hG89.le
            replace hr13 := hr13.mono hG89.le
            replace hr14 := hr14.mono hG89.le
            replace hr21 := hr21.mono hG89.le
            replace hr22 := hr22.mono hG89.le
            replace hr23 := hr23.mono hG89.le
            refine X.back ⟨trivial, ((hG24.trans hG88).trans hG89).le, rfl, ?_⟩
            refine XD.norm [0, 2, 3, 4, 25, 29, 32, 34, 39, 43, 45, 49, 53] [2, 4] ⟨69, [(0, .v (.slice A b.length c)), (2, .own 2 0), (3, .v (.int .i64 0)), (4, .own 4 0), (25, .v (.int .u16 (IntKind.u16.wrap (numB ys11)))), (29, .v (.int .u16 (IntKind.u16.wrap (numB ys12)))), (32, .v (.int .u32 (numB ys13))), (34, .v (.slice A14 ys14.length (c - 8))), (39, .v (.int .u8 (IntKind.u8.wrap (Int.tdiv (b.getD 12 0) 16)))), (43, .v (.int .u8 (Int.tmod (b.getD 13 0) 64))), (45, .v (.slice A21 ys21.length (c - 14))), (49, .v (.slice A22 ys22.length (c - 16))), (53, .v (.slice A23 ys23.length (c - 18)))], [(2, ⟨31, [.v (.int .u16 0), .v (.int .u16 0), .v (.int .u32 0), .v (.int .u32 0), .v (.int .u8 0), .v (.int .u8 0), .v (.int .u8 0), .v (.int .u16 0), .v (.int .u16 0), .v (.int .u16 0)]⟩), (4, ⟨31, [.v (.int .u16 0), .v (.int .u16 0), .v (.int .u32 0), .v (.int .u32 0), .v (.int .u8 0), .v (.int .u8 0), .v (.int .u8 0), .v (.int .u16 0), .v (.int .u16 0), .v (.int .u16 0)]⟩)]⟩ (by kernel_rfl) trivial ?_
            refine XD.one (i := 13) (l' := (lb 37 37799067647)) (oA B39 [1, 1, 1, 0] 13) (by kernel_rfl) (by kernel_rfl) (by kernel_rfl) ?_
            refine X.callG (f := 101) (l := [.v (.slice A14 ys14.length (c - 8))]) [.slice A14 ys14.length (c - 8)] 0 (by kernel_rfl) (by kernel_rfl) (by kernel_rfl) (num_ok _ _ ys14 _ hr14 hc14 hm14 (by omega)) ?_
            rintro v90 G90 rows90 hG90 ⟨rfl, rfl⟩
            replace hb := hb.mono hG90.le
            replace hr11 := hr11.mono hG90.le
            replace hr12 := hr12.mono hG90.le
            replace hr13 := hr13.mono hG90.le
            replace hr14 := hr14.mono hG90.le
            replace hr21 := hr21.mono hG90.le
            replace hr22 := hr22.mono hG90.le
            replace hr23 := hr23.mono hG90.le
            refine X.back ⟨trivial, (((hG24.trans hG88).trans hG89).trans hG90).le, rfl, ?_⟩
            refine XD.norm [0, 2, 3, 4, 25, 29, 32, 35, 39, 43, 45, 49, 53] [2, 4] ⟨69, [(0, .v (.slice A b.length c)), (2, .own 2 0), (3, .v (.int .i64 0)), (4, .own 4 0), (25, .v (.int .u16 (IntKind.u16.wrap (numB ys11)))), (29, .v (.int .u16 (IntKind.u16.wrap (numB ys12)))), (32, .v (.int .u32 (numB ys13))), (35, .v (.int .u32 (numB ys14))), (39, .v (.int .u8 (IntKind.u8.wrap (Int.tdiv (b.getD 12 0) 16)))), (43, .v (.int .u8 (Int.tmod (b.getD 13 0) 64))), (45, .v (.slice A21 ys21.length (c - 14))), (49, .v (.slice A22 ys22.length (c - 16))), (53, .v (.slice A23 ys23.length (c - 18)))], [(2, ⟨31, [.v (.int .u16 0), .v (.int .u16 0), .v (.int .u32 0), .v (.int .u32 0), .v (.int .u8 0), .v (.int .u8 0), .v (.int .u8 0), .v (.int .u16 0), .v (.int .u16 0), .v (.int .u16 0)]⟩), (4, ⟨31, [.v (.int .u16 0), .v (.int .u16 0), .v (.int .u32 0), .v (.int .u32 0), .v (.int .u8 0), .v (.int .u8 0), .v (.int .u8 0), .v (.int .u16 0), .v (.int .u16 0), .v (.int .u16 0)]⟩)]⟩ (by kernel_rfl) trivial ?_
            refine XD.one (i := 24) (l' := (lb 37 37815844863)) (oA B39 [1, 1, 1, 0] 24) (by kernel_rfl) (by kernel_rfl) (by kernel_rfl) ?_
            refine X.callG (f := 101) (l := [.v (.slice A21 ys21.length (c - 14))]) [.slice A21 ys21.length (c - 14)] 0 (by kernel_rfl) (by kernel_rfl) (by kernel_rfl) (num_ok _ _ ys21 _ hr21 hc21 hm21 (by omega)) ?_
            rintro v91 G91 rows91 hG91 ⟨rfl, rfl⟩
            replace hb := hb.mono hG91.le
            replace hr11 := hr11.mono hG91.le
            replace hr12 := hr12.mono hG91.le
            replace hr13 := hr13.mono hG91.le
            replace hr14 := hr14.mono hG91.le
            replace hr21 := hr21.mono hG91.le
            replace hr22 := hr22.mono hG91.le
            replace hr23 := hr23.mono hG91.le
            refine X.back ⟨trivial, ((((hG24.trans hG88).trans hG89).trans hG90).trans hG91).le, rfl, ?_⟩
            refine XD.take (i := 25) (l' := (lb 37 37849399295)) (oA B39 [1, 1, 1, 0] 25) (.v (.int .u16 (IntKind.u16.wrap (numB ys21)))) QOk.ctxG (by kernel_rfl) (by kernel_rfl) (by kernel_rfl) (by kernel_rfl) (by kernel_rfl) ?_
            refine XD.norm [0, 2, 3, 4, 25, 29, 32, 35, 39, 43, 47, 49, 53] [2, 4] ⟨69, [(0, .v (.slice A b.length c)), (2, .own 2 0), (3, .v (.int .i64 0)), (4, .own 4 0), (25, .v (.int .u16 (IntKind.u16.wrap (numB ys11)))), (29, .v (.int .u16 (IntKind.u16.wrap (numB ys12)))), (32, .v (.int .u32 (numB ys13))), (35, .v (.int .u32 (numB ys14))), (39, .v (.int .u8 (IntKind.u8.wrap (Int.tdiv (b.getD 12 0) 16)))), (43, .v (.int .u8 (Int.tmod (b.getD 13 0) 64))), (47, .v (.int .u16 (IntKind.u16.wrap (numB ys21)))), (49, .v (.slice A22 ys22.length (c - 16))), (53, .v (.slice A23 ys23.length (c - 18)))], [(2, ⟨31, [.v (.int .u16 0), .v (.int .u16 0), .v (.int .u32 0), .v (.int .u32 0), .v (.int .u8 0), .v (.int .u8 0), .v (.int .u8 0), .v (.int .u16 0), .v (.int .u16 0), .v (.int .u16 0)]⟩), (4, ⟨31, [.v (.int .u16 0), .v (.int .u16 0), .v (.int .u32 0), .v (.int .u32 0), .v (.int .u8 0), .v (.int .u8 0), .v (.int .u8 0), .v (.int .u16 0), .v (.int .u16 0), .v (.int .u16 0)]⟩)]⟩ (by kernel_rfl) trivial ?_
            refine XD.one (i := 28) (l' := (lb 37 38117834751)) (oA B39 [1, 1, 1, 0] 28) (by kernel_rfl) (by kernel_rfl) (by kernel_rfl) ?_
            refine X.callG (f := 101) (l := [.v (.slice A22 ys22.length (c - 16))]) [.slice A22 ys22.length (c - 16)] 0 (by kernel_rfl) (by kernel_rfl) (by kernel_rfl) (num_ok _ _ ys22 _ hr22 hc22 hm22 (by omega)) ?_
            rintro v92 G92 rows92 hG92 ⟨rfl, rfl⟩
            replace hb := hb.mono hG92.le
            replace hr11 := hr11.mono hG92.le
            replace hr12 := hr12.mono hG92.le
            replace hr13 := hr13.mono hG92.le
            replace hr14 := hr14.mono hG92.le
            replace hr21 := hr21.mono hG92.le
            replace hr22 := hr22.mono hG92.le
            replace hr23 := hr23.mono hG92.le
            refine X.back ⟨trivial, (((((hG24.trans hG88).trans hG89).trans hG90).trans hG91).trans hG92).le, rfl, ?_⟩
            refine XD.take (i := 29) (l' := (lb 37 38654705663)) (oA B39 [1, 1, 1, 0] 29) (.v (.int .u16 (IntKind.u16.wrap (numB ys22)))) QOk.ctxG (by kernel_rfl) (by kernel_rfl) (by kernel_rfl) (by kernel_rfl) (by kernel_rfl) ?_
            refine XD.norm [0, 2, 3, 4, 25, 29, 32, 35, 39, 43, 47, 51, 53] [2, 4] ⟨69, [(0, .v (.slice A b.length c)), (2, .own 2 0), (3, .v (.int .i64 0)), (4, .own 4 0), (25, .v (.int .u16 (IntKind.u16.wrap (numB ys11)))), (29, .v (.int .u16 (IntKind.u16.wrap (numB ys12)))), (32, .v (.int .u32 (numB ys13))), (35, .v (.int .u32 (numB ys14))), (39, .v (.int .u8 (IntKind.u8.wrap (Int.tdiv (b.getD 12 0) 16)))), (43, .v (.int .u8 (Int.tmod (b.getD 13 0) 64))), (47, .v (.int .u16 (IntKind.u16.wrap (numB ys21)))), (51, .v (.int .u16 (IntKind.u16.wrap (numB ys22)))), (53, .v (.slice A23 ys23.length (c - 18)))], [(2, ⟨31, [.v (.int .u16 0), .v (.int .u16 0), .v (.int .u32 0), .v (.int .u32 0), .v (.int .u8 0), .v (.int .u8 0), .v (.int .u8 0), .v (.int .u16 0), .v (.int .u16 0), .v (.int .u16 0)]⟩), (4, ⟨31, [.v (.int .u16 0), .v (.int .u16 0), .v (.int .u32 0), .v (.int .u32 0), .v (.int .u8 0), .v (.int .u8 0), .v (.int .u8 0), .v (.int .u16 0), .v (.int .u16 0), .v (.int .u16 0)]⟩)]⟩ (by kernel_rfl) trivial ?_
            refine XD.one (i := 32) (l' := (lb 37 42949672959)) (oA B39 [1, 1, 1, 0] 32) (by kernel_rfl) (by kernel_rfl) (by kernel_rfl) ?_
            refine X.callG (f := 101) (l := [.v (.slice A23 ys23.length (c - 18))]) [.slice A23 ys23.length (c - 18)] 0 (by kernel_rfl) (by kernel_rfl) (by kernel_rfl) (num_ok _ _ ys23 _ hr23 hc23 hm23 (by omega)) ?_
            rintro v93 G93 rows93 hG93 ⟨rfl, rfl⟩
            replace hb := hb.mono hG93.le
            replace hr11 := hr11.mono hG93.le
            replace hr12 := hr12.mono hG93.le
            replace hr13 := hr13.mono hG93.le
            replace hr14 := hr14.mono hG93.le
            replace hr21 := hr21.mono hG93.le
            replace hr22 := hr22.mono hG93.le
            replace hr23 := hr23.mono hG93.le
            refine X.back ⟨trivial, ((((((hG24.trans hG88).trans hG89).trans hG90).trans hG91).trans hG92).trans hG93).le, rfl, ?_⟩
            refine XD.take (i := 33) (l' := (lb 37 51539607551)) (oA B39 [1, 1, 1, 0] 33) (.v (.int .u16 (IntKind.u16.wrap (numB ys23)))) QOk.ctxG (by kernel_rfl) (by kernel_rfl) (by kernel_rfl) (by kernel_rfl) (by kernel_rfl) ?_
            refine XD.take (i := 34) (l' := (lb 37 68719476735)) (oA B39 [1, 1, 1, 0] 34) (.v (.agg #[.int .u16 (IntKind.u16.wrap (numB ys11)), .int .u16 (IntKind.u16.wrap (numB ys12)), .int .u32 (numB ys13), .int .u32 (numB ys14), .int .u8 (IntKind.u8.wrap (Int.tdiv (b.getD 12 0) 16)), .int .u8 0, .int .u8 (Int.tmod (b.getD 13 0) 64), .int .u16 (IntKind.u16.wrap (numB ys21)), .int .u16 (IntKind.u16.wrap (numB ys22)), .int .u16 (IntKind.u16.wrap (numB ys23))])) QOk.ctxG (by kernel_rfl) (by kernel_rfl) (by kernel_rfl) (by kernel_rfl) (by kernel_rfl) ?_
            refine XD.norm [0, 2, 3, 4, 56] [2, 4] ⟨69, [(0, .v (.slice A b.length c)), (2, .own 2 0), (3, .v (.int .i64 0)), (4, .own 4 0), (56, .v (.agg #[.int .u16 (IntKind.u16.wrap (numB ys11)), .int .u16 (IntKind.u16.wrap (numB ys12)), .int .u32 (numB ys13), .int .u32 (numB ys14), .int .u8 (IntKind.u8.wrap (Int.tdiv (b.getD 12 0) 16)), .int .u8 0, .int .u8 (Int.tmod (b.getD 13 0) 64), .int .u16 (IntKind.u16.wrap (numB ys21)), .int .u16 (IntKind.u16.wrap (numB ys22)), .int .u16 (IntKind.u16.wrap (numB ys23))]))], [(2, ⟨31, [.v (.int .u16 0), .v (.int .u16 0), .v (.int .u32 0), .v (.int .u32 0), .v (.int .u8 0), .v (.int .u8 0), .v (.int .u8 0), .v (.int .u16 0), .v (.int .u16 0), .v (.int .u16 0)]⟩), (4, ⟨31, [.v (.int .u16 0), .v (.int .u16 0), .v (.int .u32 0), .v (.int .u32 0), .v (.int .u8 0), .v (.int .u8 0), .v (.int .u8 0), .v (.int .u16 0), .v (.int .u16 0), .v (.int .u16 0)]⟩)]⟩ (by kernel_rfl) trivial ?_
            refine XD.one (i := 36) (l' := (lb 37 137438953471)) (oA B39 [1, 1, 1, 0] 36) (by kernel_rfl) (by kernel_rfl) (by kernel_rfl) ?_
            refine X.simple (by kernel_rfl) ?_
            refine X.back ⟨trivial, ((((((hG24.trans hG88).trans hG89).trans hG90).trans hG91).trans hG92).trans hG93).le, rfl, ?_⟩
            refine XD.done (by kernel_rfl) ?_
            refine X.run 2 [0, 2, 3, 4] [2, 4] (.code (cA B39 [1, 1, 1, 1, 0])) [.seq (cA B39 [1, 1, 1, 1, 1])] ⟨69, [(0, .v (.slice A b.length c)), (2, .own 2 0), (3, .v (.int .i64 0)), (4, .own 4 0)], [(2, ⟨31, [.v (.int .u16 0), .v (.int .u16 0), .v (.int .u32 0), .v (.int .u32 0), .v (.int .u8 0), .v (.int .u8 0), .v (.int .u8 0), .v (.int .u16 0), .v (.int .u16 0), .v (.int .u16 0)]⟩), (4, ⟨31, [.v (.int .u16 (IntKind.u16.wrap (numB ys11))), .v (.int .u16 (IntKind.u16.wrap (numB ys12))), .v (.int .u32 (numB ys13)), .v (.int .u32 (numB ys14)), .v (.int .u8 (IntKind.u8.wrap (Int.tdiv (b.getD 12 0) 16))), .v (.int .u8 0), .v (.int .u8 (Int.tmod (b.getD 13 0) 64)), .v (.int .u16 (IntKind.u16.wrap (numB ys21))), .v (.int .u16 (IntKind.u16.wrap (numB ys22))), .v (.int .u16 (IntKind.u16.wrap (numB ys23)))]⟩)]⟩ (by kernel_rfl) ?_
            have hb_d94 := hb
            have hr11_d94 := hr11
            have hr12_d94 := hr12
            have hr13_d94 := hr13
            have hr14_d94 := hr14
            have hr21_d94 := hr21
            have hr22_d94 := hr22
            have hr23_d94 := hr23
            refine XD.open (id := 6) (arr := aA B39 [1, 1, 1, 1, 0]) 12 [] [] [] (by kernel_rfl) (by kernel_rfl) (by kernel_rfl) (by kernel_rfl) (by kernel_rfl) trivial (by simp) rfl (fun ρ0 => ?_)
            refine XD.take (i := 0) (l' := (lb 12 1)) (oA B39 [1, 1, 1, 1, 0] 0) (.v (.slice A b.length c)) QOk.ctxG (by kernel_rfl) (by kernel_rfl) (by kernel_rfl) (by kernel_rfl) (by kernel_rfl) ?_
            have b95 : (0 : Int) ≤ 12 := by omega
            have b96 : 12 < ((b.length : Nat) : Int) := by omega
            obtain ⟨at97, lo97, hi97⟩ := At.int [] hb_d94 12 (by omega)
            simp only [IntKind.lo, IntKind.hi] at lo97 hi97
            refine XD.index (i := 1) (l' := (lb 12 3)) (o := (oA B39 [1, 1, 1, 1, 0] 1)) (t := 22) (e := 5) (sz := 1) (A := A) (n := b.length) (c := c) (ki := .i64) (j := 12) (x := .tmp 57) (ix := .const (.int .i64 12)) QOk.ctxG (by kernel_rfl) (by kernel_rfl) (by kernel_rfl) (by kernel_rfl) (by kernel_rfl) (by kernel_rfl) (by kernel_rfl) (by kernel_rfl) b95 b96 (fun _ _ => rowAt.so hb_d94 (by omega)) (by kernel_rfl) ?_
            refine XD.load (i := 2) (l' := (lb 12 7)) (o := (oA B39 [1, 1, 1, 1, 0] 2)) (t := 5) (A := A) (j := 12 * 1) (x := .tmp 58) (z := .int .u8 (b.getD 12 0)) [.int .u8 (b.getD 12 0)] QOk.ctxG (by kernel_rfl) (by kernel_rfl) (by kernel_rfl) (by kernel_rfl) (by kernel_rfl) at97 (by kernel_rfl) (by kernel_rfl) ?_
            refine XD.take (i := 3) (l' := (lb 12 15)) (oA B39 [1, 1, 1, 1, 0] 3) (.v (.int .u8 (Int.tmod (b.getD 12 0) 2))) QOk.ctxG (by kernel_rfl) (by kernel_rfl) (by kernel_rfl) (by kernel_rfl) (by kernel_rfl) ?_
            refine XD.take (i := 4) (l' := (lb 12 31)) (oA B39 [1, 1, 1, 1, 0] 4) (.v (.int .u8 (IntKind.u8.wrap ((Int.tmod (b.getD 12 0) 2) * 4)))) QOk.ctxG (by kernel_rfl) (by kernel_rfl) (by kernel_rfl) (by kernel_rfl) (by kernel_rfl) ?_
            refine XD.take (i := 5) (l' := (lb 12 63)) (oA B39 [1, 1, 1, 1, 0] 5) (.v (.slice A b.length c)) QOk.ctxG (by kernel_rfl) (by kernel_rfl) (by kernel_rfl) (by kernel_rfl) (by kernel_rfl) ?_
            have b98 : (0 : Int) ≤ 13 := by omega
            have b99 : 13 < ((b.length : Nat) : Int) := by omega
            obtain ⟨at100, lo100, hi100⟩ := At.int [] hb_d94 13 (by omega)
            simp only [IntKind.lo, IntKind.hi] at lo100 hi100
            refine XD.index (i := 6) (l' := (lb 12 127)) (o := (oA B39 [1, 1, 1, 1, 0] 6)) (t := 22) (e := 5) (sz := 1) (A := A) (n := b.length) (c := c) (ki := .i64) (j := 13) (x := .tmp 62) (ix := .const (.int .i64 13)) QOk.ctxG (by kernel_rfl) (by kernel_rfl) (by kernel_rfl) (by kernel_rfl) (by kernel_rfl) (by kernel_rfl) (by kernel_rfl) (by kernel_rfl) b98 b99 (fun _ _ => rowAt.so hb_d94 (by omega)) (by kernel_rfl) ?_
            refine XD.load (i := 7) (l' := (lb 12 255)) (o := (oA B39 [1, 1, 1, 1, 0] 7)) (t := 5) (A := A) (j := 13 * 1) (x := .tmp 63) (z := .int .u8 (b.getD 13 0)) [.int .u8 (b.getD 13 0)] QOk.ctxG (by kernel_rfl) (by kernel_rfl) (by kernel_rfl) (by kernel_rfl) (by kernel_rfl) at100 (by kernel_rfl) (by kernel_rfl) ?_
            refine XD.take (i := 8) (l' := (lb 12 511)) (oA B39 [1, 1, 1, 1, 0] 8) (.v (.int .u8 (IntKind.u8.wrap (Int.tdiv (b.getD 13 0) 64)))) QOk.ctxG (by kernel_rfl) (by kernel_rfl) (by kernel_rfl) (by kernel_rfl) (by kernel_rfl) ?_
            refine XD.take (i := 9) (l' := (lb 12 1023)) (oA B39 [1, 1, 1, 1, 0] 9) (.v (.int .u8 (IntKind.u8.wrap ((IntKind.u8.wrap ((Int.tmod (b.getD 12 0) 2) * 4)) + (IntKind.u8.wrap (Int.tdiv (b.getD 13 0) 64)))))) QOk.ctxG (by kernel_rfl) (by kernel_rfl) (by kernel_rfl) (by kernel_rfl) (by kernel_rfl) ?_
            refine XD.take (i := 10) (l' := (lb 12 2047)) (oA B39 [1, 1, 1, 1, 0] 10) (.own 4 5) QOk.ctxG (by kernel_rfl) (by kernel_rfl) (by kernel_rfl) (by kernel_rfl) (by kernel_rfl) ?_
            refine XD.norm [2, 3, 4, 66, 67] [2, 4] ⟨69, [(2, .own 2 0), (3, .v (.int .i64 0)), (4, .own 4 0), (66, .v (.int .u8 (IntKind.u8.wrap ((IntKind.u8.wrap ((Int.tmod (b.getD 12 0) 2) * 4)) + (IntKind.u8.wrap (Int.tdiv (b.getD 13 0) 64)))))), (67, .own 4 5)], [(2, ⟨31, [.v (.int .u16 0), .v (.int .u16 0), .v (.int .u32 0), .v (.int .u32 0), .v (.int .u8 0), .v (.int .u8 0), .v (.int .u8 0), .v (.int .u16 0), .v (.int .u16 0), .v (.int .u16 0)]⟩), (4, ⟨31, [.v (.int .u16 (IntKind.u16.wrap (numB ys11))), .v (.int .u16 (IntKind.u16.wrap (numB ys12))), .v (.int .u32 (numB ys13)), .v (.int .u32 (numB ys14)), .v (.int .u8 (IntKind.u8.wrap (Int.tdiv (b.getD 12 0) 16))), .v (.int .u8 0), .v (.int .u8 (Int.tmod (b.getD 13 0) 64)), .v (.int .u16 (IntKind.u16.wrap (numB ys21))), .v (.int .u16 (IntKind.u16.wrap (numB ys22))), .v (.int .u16 (IntKind.u16.wrap (numB ys23)))]⟩)]⟩ (by kernel_rfl) trivial ?_
            refine XD.one (i := 11) (l' := (lb 12 4095)) (oA B39 [1, 1, 1, 1, 0] 11) (by kernel_rfl) (by kernel_rfl) (by kernel_rfl) ?_
            refine X.simple (by kernel_rfl) ?_
            refine X.back ⟨trivial, Le.refl _, rfl, ?_⟩
            refine XD.done (by kernel_rfl) ?_
            refine X.run 9 [2, 3] [2] (.ex .ret) [] ⟨69, [(2, .own 2 0), (3, .v (.int .i64 0))], [(2, ⟨31, [.v (.int .u16 (IntKind.u16.wrap (numB ys11))), .v (.int .u16 (IntKind.u16.wrap (numB ys12))), .v (.int .u32 (numB ys13)), .v (.int .u32 (numB ys14)), .v (.int .u8 (IntKind.u8.wrap (Int.tdiv (b.getD 12 0) 16))), .v (.int .u8 (IntKind.u8.wrap ((IntKind.u8.wrap ((Int.tmod (b.getD 12 0) 2) * 4)) + (IntKind.u8.wrap (Int.tdiv (b.getD 13 0) 64))))), .v (.int .u8 (Int.tmod (b.getD 13 0) 64)), .v (.int .u16 (IntKind.u16.wrap (numB ys21))), .v (.int .u16 (IntKind.u16.wrap (numB ys22))), .v (.int .u16 (IntKind.u16.wrap (numB ys23)))]⟩)]⟩ (by kernel_rfl) ?_
            refine doneG (.inl rfl) [.agg #[.int .u16 (IntKind.u16.wrap (numB ys11)), .int .u16 (IntKind.u16.wrap (numB ys12)), .int .u32 (numB ys13), .int .u32 (numB ys14), .int .u8 (IntKind.u8.wrap (Int.tdiv (b.getD 12 0) 16)), .int .u8 (IntKind.u8.wrap ((IntKind.u8.wrap ((Int.tmod (b.getD 12 0) 2) * 4)) + (IntKind.u8.wrap (Int.tdiv (b.getD 13 0) 64)))), .int .u8 (Int.tmod (b.getD 13 0) 64), .int .u16 (IntKind.u16.wrap (numB ys21)), .int .u16 (IntKind.u16.wrap (numB ys22)), .int .u16 (IntKind.u16.wrap (numB ys23))], .int .i64 0] [] (by kernel_rfl) rfl rfl (((((((hG24.trans hG88).trans hG89).trans hG90).trans hG91).trans hG92).trans hG93)) ?_
            -- end 10 (FFF)
            subst hys11 hys12 hys13 hys14 hys21 hys22 hys23
            exact ⟨fun h => absurd h (by omega), fun h => absurd h.2 (by intro hh; rcases hh with hh | hh <;> contradiction), fun _ => rfl, rfl⟩
        · -- 35 first
          refine X.simple (by kernel_rfl) ?_
          refine X.back ⟨trivial, Le.refl _, rfl, ?_⟩
          refine XD.norm [0, 2, 3, 4, 23, 27, 31, 34, 39, 43, 45, 49, 53] [2, 4] ⟨69, [(0, .v (.slice A b.length c)), (2, .own 2 0), (3, .v (.int .i64 0)), (4, .own 4 0), (23, .v (.slice A11 ys11.length (c - 0))), (27, .v (.slice A12 ys12.length (c - 2))), (31, .v (.slice A13 ys13.length (c - 4))), (34, .v (.slice A14 ys14.length (c - 8))), (39, .v (.int .u8 (IntKind.u8.wrap (Int.tdiv (b.getD 12 0) 16)))), (43, .v (.int .u8 (Int.tmod (b.getD 13 0) 64))), (45, .v (.slice A21 ys21.length (c - 14))), (49, .v (.slice A22 ys22.length (c - 16))), (53, .v (.slice A23 ys23.length (c - 18)))], [(2, ⟨31, [.v (.int .u16 0), .v (.int .u16 0), .v (.int .u32 0), .v (.int .u32 0), .v (.int .u8 0), .v (.int .u8 0), .v (.int .u8 0), .v (.int .u16 0), .v (.int .u16 0), .v (.int .u16 0)]⟩), (4, ⟨31, [.v (.int .u16 0), .v (.int .u16 0), .v (.int .u32 0), .v (.int .u32 0), .v (.int .u8 0), .v (.int .u8 0), .v (.int .u8 0), .v (.int .u16 0), .v (.int .u16 0), .v (.int .u16 0)]⟩)]⟩ (by kernel_rfl) trivial ?_
          refine XD.one (i := 2) (l' := (lb 37 37799058231)) (oA B39 [1, 1, 1, 0] 2) (by kernel_rfl) (by kernel_rfl) (by kernel_rfl) ?_
          refine X.callG (f := 101) (l := [.v (.slice A11 ys11.length (c - 0))]) [.slice A11 ys11.length (c - 0)] 0 (by kernel_rfl) (by kernel_rfl) (by kernel_rfl) (num_ok _ _ ys11 _ hr11 hc11 hm11 (by omega)) ?_
          rintro v101 G101 rows101 hG101 ⟨rfl, rfl⟩
          replace hb := hb.mono hG101.le
          replace hr11 := hr11.mono hG101.le
          replace hr12 := hr12.mono hG101.le
          replace hr13 := hr13.mono hG101.le
          replace hr14 := hr14.mono hG101.le
          replace hr21 := hr21.mono hG101.le
          replace hr22 := hr22.mono hG101.le
          replace hr23 := hr23.mono hG101.le
          refine X.back ⟨trivial, hG101.le, rfl, ?_⟩
          refine XD.take (i := 3) (l' := (lb 37 37799058239)) (oA B39 [1, 1, 1, 0] 3) (.v (.int .u16 (IntKind.u16.wrap (numB ys11)))) QOk.ctxG (by kernel_rfl) (by kernel_rfl) (by kernel_rfl) (by kernel_rfl) (by kernel_rfl) ?_
          refine XD.norm [0, 2, 3, 4, 25, 27, 31, 34, 39, 43, 45, 49, 53] [2, 4] ⟨69, [(0, .v (.slice A b.length c)), (2, .own 2 0), (3, .v (.int .i64 0)), (4, .own 4 0), (25, .v (.int .u16 (IntKind.u16.wrap (numB ys11)))), (27, .v (.slice A12 ys12.length (c - 2))), (31, .v (.slice A13 ys13.length (c - 4))), (34, .v (.slice A14 ys14.length (c - 8))), (39, .v (.int .u8 (IntKind.u8.wrap (Int.tdiv (b.getD 12 0) 16)))), (43, .v (.int .u8 (Int.tmod (b.getD 13 0) 64))), (45, .v (.slice A21 ys21.length (c - 14))), (49, .v (.slice A22 ys22.length (c - 16))), (53, .v (.slice A23 ys23.length (c - 18)))], [(2, ⟨31, [.v (.int .u16 0), .v (.int .u16 0), .v (.int .u32 0), .v (.int .u32 0), .v (.int .u8 0), .v (.int .u8 0), .v (.int .u8 0), .v (.int .u16 0), .v (.int .u16 0), .v (.int .u16 0)]⟩), (4, ⟨31, [.v (.int .u16 0), .v (.int .u16 0), .v (.int .u32 0), .v (.int .u32 0), .v (.int .u8 0), .v (.int .u8 0), .v (.int .u8 0), .v (.int .u16 0), .v (.int .u16 0), .v (.int .u16 0)]⟩)]⟩ (by kernel_rfl) trivial ?_
          refine XD.one (i := 6) (l' := (lb 37 37799058303)) (oA B39 [1, 1, 1, 0] 6) (by kernel_rfl) (by kernel_rfl) (by kernel_rfl) ?_
          refine X.callG (f := 101) (l := [.v (.slice A12 ys12.length (c - 2))]) [.slice A12 ys12.length (c - 2)] 0 (by kernel_rfl) (by kernel_rfl) (by kernel_rfl) (num_ok _ _ ys12 _ hr12 hc12 hm12 (by omega)) ?_
          rintro v102 G102 rows102 hG102 ⟨rfl, rfl⟩
          replace hb := hb.mono hG102.le
          replace hr11 := hr11.mono hG102.le
          replace hr12 := hr12.mono hG102.le
          replace hr13 := hr13.mono hG102.le
          replace hr14 := hr14.mono hG102.le
          replace hr21 := hr21.mono hG102.le
          replace hr22 := hr22.mono hG102.le
          replace hr23 := hr23.mono hG102.le
          refine X.back ⟨trivial, (hG101.trans hG102).le, rfl, ?_⟩
          refine XD.take (i := 7) (l' := (lb 37 37799058431)) (oA B39 [1, 1, 1, 0] 7) (.v (.int .u16 (IntKind.u16.wrap (numB ys12)))) QOk.ctxG (by kernel_rfl) (by kernel_rfl) (by kernel_rfl) (by kernel_rfl) (by kernel_rfl) ?_
          refine XD.norm [0, 2, 3, 4, 25, 29, 31, 34, 39, 43, 45, 49, 53] [2, 4] ⟨69, [(0, .v (.slice A b.length c)), (2, .own 2 0), (3, .v (.int .i64 0)), (4, .own 4 0), (25, .v (.int .u16 (IntKind.u16.wrap (numB ys11)))), (29, .v (.int .u16 (IntKind.u16.wrap (numB ys12)))), (31, .v (.slice A13 ys13.length (c - 4))), (34, .v (.slice A14 ys14.length (c - 8))), (39, .v (.int .u8 (IntKind.u8.wrap (Int.tdiv (b.getD 12 0) 16)))), (43, .v (.int .u8 (Int.tmod (b.getD 13 0) 64))), (45, .v (.slice A21 ys21.length (c - 14))), (49, .v (.slice A22 ys22.length (c - 16))), (53, .v (.slice A23 ys23.length (c - 18)))], [(2, ⟨31, [.v (.int .u16 0), .v (.int .u16 0), .v (.int .u32 0), .v (.int .u32 0), .v (.int .u8 0), .v (.int .u8 0), .v (.int .u8 0), .v (.int .u16 0), .v (.int .u16 0), .v (.int .u16 0)]⟩), (4, ⟨31, [.v (.int .u16 0), .v (.int .u16 0), .v (.int .u32 0), .v (.int .u32 0), .v (.int .u8 0), .v (.int .u8 0), .v (.int .u8 0), .v (.int .u16 0), .v (.int .u16 0), .v (.int .u16 0)]⟩)]⟩ (by kernel_rfl) trivial ?_
          refine XD.one (i := 10) (l' := (lb 37 37799059455)) (oA B39 [1, 1, 1, 0] 10) (by kernel_rfl) (by kernel_rfl) (by kernel_rfl) ?_
          refine X.callG (f := 101) (l := [.v (.slice A13 ys13.length (c - 4))]) [.slice A13 ys13.length (c - 4)] 0 (by kernel_rfl) (by kernel_rfl) (by kernel_rfl) (num_ok _ _ ys13 _ hr13 hc13 hm13 (by omega)) ?_
          rintro v103 G103 rows103 hG103 ⟨rfl, rfl⟩
          replace hb := hb.mono hG103.le
          replace hr11 := hr11.mono hG103.le
          replace hr12 := hr12.mono hG103.le
          replace hr13 := hr13.mono hG103.le
          replace hr14 := hr14.mono hG103.le
          replace hr21 := hr21.mono hG103.le
          replace hr22 := hr22.mono hG103.le
          replace hr23 := hr23.mono hG103.le
          refine X.back ⟨trivial, ((hG101.trans hG102).trans hG103).le, rfl, ?_⟩
          refine XD.norm [0, 2, 3, 4, 25, 29, 32, 34, 39, 43, 45, 49, 53] [2, 4] ⟨69, [(0, .v (.slice A b.length c)), (2, .own 2 0), (3, .v (.int .i64 0)), (4, .own 4 0), (25, .v (.int .u16 (IntKind.u16.wrap (numB ys11)))), (29, .v (.int .u16 (IntKind.u16.wrap (numB ys12)))), (32, .v (.int .u32 (numB ys13))), (34, .v (.slice A14 ys14.length (c - 8))), (39, .v (.int .u8 (IntKind.u8.wrap (Int.tdiv (b.getD 12 0) 16)))), (43, .v (.int .u8 (Int.tmod (b.getD 13 0) 64))), (45, .v (.slice A21 ys21.length (c - 14))), (49, .v (.slice A22 ys22.length (c - 16))), (53, .v (.slice A23 ys23.length (c - 18)))], [(2, ⟨31, [.v (.int .u16 0), .v (.int .u16 0), .v (.int .u32 0), .v (.int .u32 0), .v (.int .u8 0), .v (.int .u8 0), .v (.int .u8 0), .v (.int .u16 0), .v (.int .u16 0), .v (.int .u16 0)]⟩), (4, ⟨31, [.v (.int .u16 0), .v (.int .u16 0), .v (.int .u32 0), .v (.int .u32 0), .v (.int .u8 0), .v (.int .u8 0), .v (.int .u8 0), .v (.int .u16 0), .v (.int .u16 0), .v (.int .u16 0)]⟩)]⟩ (by kernel_rfl) trivial ?_
          refine XD.one (i := 13) (l' := (lb 37 37799067647)) (oA B39 [1, 1, 1, 0] 13) (by kernel_rfl) (by kernel_rfl) (by kernel_rfl) ?_
          refine X.callG (f := 101) (l := [.v (.slice A14 ys14.length (c - 8))]) [.slice A14 ys14.length (c - 8)] 0 (by kernel_rfl) (by kernel_rfl) (by kernel_rfl) (num_ok _ _ ys14 _ hr14 hc14 hm14 (by omega)) ?_
          rintro v104 G104 rows104 hG104 ⟨rfl, rfl⟩
          replace hb := hb.mono hG104.le
          replace hr11 := hr11.mono hG104.le
          replace hr12 := hr12.mono hG104.le
          replace hr13 := hr13.mono hG104.le
          replace hr14 := hr14.mono hG104.le
          replace hr21 := hr21.mono hG104.le
          replace hr22 := hr22.mono hG104.le
          replace hr23 := hr23.mono hG104.le
          refine X.back ⟨trivial, (((hG101.trans hG102).trans hG103).trans hG104).le, rfl, ?_⟩
          refine XD.norm [0, 2, 3, 4, 25, 29, 32, 35, 39, 43, 45, 49, 53] [2, 4] ⟨69, [(0, .v (.slice A b.length c)), (2, .own 2 0), (3, .v (.int .i64 0)), (4, .own 4 0), (25, .v (.int .u16 (IntKind.u16.wrap (numB ys11)))), (29, .v (.int .u16 (IntKind.u16.wrap (numB ys12)))), (32, .v (.int .u32 (numB ys13))), (35, .v (.int .u32 (numB ys14))), (39, .v (.int .u8 (IntKind.u8.wrap (Int.tdiv (b.getD 12 0) 16)))), (43, .v (.int .u8 (Int.tmod (b.getD 13 0) 64))), (45, .v (.slice A21 ys21.length (c - 14))), (49, .v (.slice A22 ys22.length (c - 16))), (53, .v (.slice A23 ys23.length (c - 18)))], [(2, ⟨31, [.v (.int .u16 0), .v (.int .u16 0), .v (.int .u32 0), .v (.int .u32 0), .v (.int .u8 0), .v (.int .u8 0), .v (.int .u8 0), .v (.int .u16 0), .v (.int .u16 0), .v (.int .u16 0)]⟩), (4, ⟨31, [.v (.int .u16 0), .v (.int .u16 0), .v (.int .u32 0), .v (.int .u32 0), .v (.int .u8 0), .v (.int .u8 0), .v (.int .u8 0), .v (.int .u16 0), .v (.int .u16 0), .v (.int .u16 0)]⟩)]⟩ (by kernel_rfl) trivial ?_
          refine XD.one (i := 24) (l' := (lb 37 37815844863)) (oA B39 [1, 1, 1, 0] 24) (by kernel_rfl) (by kernel_rfl) (by kernel_rfl) ?_
          refine X.callG (f := 101) (l := [.v (.slice A21 ys21.length (c - 14))]) [.slice A21 ys21.length (c - 14)] 0 (by kernel_rfl) (by kernel_rfl) (by kernel_rfl) (num_ok _ _ ys21 _ hr21 hc21 hm21 (by omega)) ?_
          rintro v105 G105 rows105 hG105 ⟨rfl, rfl⟩
          replace hb := hb.mono hG105.le
          replace hr11 := hr11.mono hG105.le
          replace hr12 := hr12.mono hG105.le
          replace hr13 := hr13.mono hG105.le
          replace hr14 := hr14.mono hG105.le
          replace hr21 := hr21.mono hG105.le
          replace hr22 := hr22.mono hG105.le
          replace hr23 := hr23.mono hG105.le
          refine X.back ⟨trivial, ((((hG101.trans hG102).trans hG103).trans hG104).trans hG105).le, rfl, ?_⟩
          refine XD.take (i := 25) (l' := (lb 37 37849399295)) (oA B39 [1, 1, 1, 0] 25) (.v (.int .u16 (IntKind.u16.wrap (numB ys21)))) QOk.ctxG (by kernel_rfl) (by kernel_rfl) (by kernel_rfl) (by kernel_rfl) (by kernel_rfl) ?_
          refine XD.norm [0, 2, 3, 4, 25, 29, 32, 35, 39, 43, 47, 49, 53] [2, 4] ⟨69, [(0, .v (.slice A b.length c)), (2, .own 2 0), (3, .v (.int .i64 0)), (4, .own 4 0), (25, .v (.int .u16 (IntKind.u16.wrap (numB ys11)))), (29, .v (.int .u16 (IntKind.u16.wrap (numB ys12)))), (32, .v (.int .u32 (numB ys13))), (35, .v (.int .u32 (numB ys14))), (39, .v (.int .u8 (IntKind.u8.wrap (Int.tdiv (b.getD 12 0) 16)))), (43, .v (.int .u8 (Int.tmod (b.getD 13 0) 64))), (47, .v (.int .u16 (IntKind.u16.wrap (numB ys21)))), (49, .v (.slice A22 ys22.length (c - 16))), (53, .v (.slice A23 ys23.length (c - 18)))], [(2, ⟨31, [.v (.int .u16 0), .v (.int .u16 0), .v (.int .u32 0), .v (.int .u32 0), .v (.int .u8 0), .v (.int .u8 0), .v (.int .u8 0), .v (.int .u16 0), .v (.int .u16 0), .v (.int .u16 0)]⟩), (4, ⟨31, [.v (.int .u16 0), .v (.int .u16 0), .v (.int .u32 0), .v (.int .u32 0), .v (.int .u8 0), .v (.int .u8 0), .v (.int .u8 0), .v (.int .u16 0), .v (.int .u16 0), .v (.int .u16 0)]⟩)]⟩ (by kernel_rfl) trivial ?_
          refine XD.one (i := 28) (l' := (lb 37 38117834751)) (oA B39 [1, 1, 1, 0] 28) (by kernel_rfl) (by kernel_rfl) (by kernel_rfl) ?_
          refine X.callG (f := 101) (l := [.v (.slice A22 ys22.length (c - 16))]) [.slice A22 ys22.length (c - 16)] 0 (by kernel_rfl) (by kernel_rfl) (by kernel_rfl) (num_ok _ _ ys22 _ hr22 hc22 hm22 (by omega)) ?_
          rintro v106 G106 rows106 hG106 ⟨rfl, rfl⟩
          replace hb := hb.mono hG106.le
          replace hr11 := hr11.mono hG106.le
          replace hr12 := hr12.mono hG106.le
          replace hr13 := hr13.mono hG106.le
          replace hr14 := hr14.mono hG106.le
          replace hr21 := hr21.mono hG106.le
          replace hr22 := hr22.mono hG106.le
          replace hr23 := hr23.mono hG106.le
          refine X.back ⟨trivial, (((((hG101.trans hG102).trans hG103).trans hG104).trans hG105).trans hG106).le, rfl, ?_⟩
          refine XD.take (i := 29) (l' := (lb 37 38654705663)) (oA B39 [1, 1, 1, 0] 29) (.v (.int .u16 (IntKind.u16.wrap (numB ys22)))) QOk.ctxG (by kernel_rfl) (by kernel_rfl) (by kernel_rfl) (by kernel_rfl) (by kernel_rfl) ?_
          refine XD.norm [0, 2, 3, 4, 25, 29, 32, 35, 39, 43, 47, 51, 53] [2, 4] ⟨69, [(0, .v (.slice A b.length c)), (2, .own 2 0), (3, .v (.int .i64 0)), (4, .own 4 0), (25, .v (.int .u16 (IntKind.u16.wrap (numB ys11)))), (29, .v (.int .u16 (IntKind.u16.wrap (numB ys12)))), (32, .v (.int .u32 (numB ys13))), (35, .v (.int .u32 (numB ys14))), (39, .v (.int .u8 (IntKind.u8.wrap (Int.tdiv (b.getD 12 0) 16)))), (43, .v (.int .u8 (Int.tmod (b.getD 13 0) 64))), (47, .v (.int .u16 (IntKind.u16.wrap (numB ys21)))), (51, .v (.int .u16 (IntKind.u16.wrap (numB ys22)))), (53, .v (.slice A23 ys23.length (c - 18)))], [(2, ⟨31, [.v (.int .u16 0), .v (.int .u16 0), .v (.int .u32 0), .v (.int .u32 0), .v (.int .u8 0), .v (.int .u8 0), .v (.int .u8 0), .v (.int .u16 0), .v (.int .u16 0), .v (.int .u16 0)]⟩), (4, ⟨31, [.v (.int .u16 0), .v (.int .u16 0), .v (.int .u32 0), .v (.int .u32 0), .v (.int .u8 0), .v (.int .u8 0), .v (.int .u8 0), .v (.int .u16 0), .v (.int .u16 0), .v (.int .u16 0)]⟩)]⟩ (by kernel_rfl) trivial ?_
          refine XD.one (i := 32) (l' := (lb 37 42949672959)) (oA B39 [1, 1, 1, 0] 32) (by kernel_rfl) (by kernel_rfl) (by kernel_rfl) ?_
          refine X.callG (f := 101) (l := [.v (.slice A23 ys23.length (c - 18))]) [.slice A23 ys23.length (c - 18)] 0 (by kernel_rfl) (by kernel_rfl) (by kernel_rfl) (num_ok _ _ ys23 _ hr23 hc23 hm23 (by omega)) ?_
          rintro v107 G107 rows107 hG107 ⟨rfl, rfl⟩
          replace hb := hb.mono hG107.le
          replace hr11 := hr11.mono hG107.le
          replace hr12 := hr12.mono hG107.le
          replace hr13 := hr13.mono hG107.le
          replace hr14 := hr14.mono hG107.le
          replace hr21 := hr21.mono hG107.le
          replace hr22 := hr22.mono hG107.le
          replace hr23 := hr23.mono hG107.le
          refine X.back ⟨trivial, ((((((hG101.trans hG102).trans hG103).trans hG104).trans hG105).trans hG106).trans hG107).le, rfl, ?_⟩
          refine XD.take (i := 33) (l' := (lb 37 51539607551)) (oA B39 [1, 1, 1, 0] 33) (.v (.int .u16 (IntKind.u16.wrap (numB ys23)))) QOk.ctxG (by kernel_rfl) (by kernel_rfl) (by kernel_rfl) (by kernel_rfl) (by kernel_rfl) ?_
          refine XD.take (i := 34) (l' := (lb 37 68719476735)) (oA B39 [1, 1, 1, 0] 34) (.v (.agg #[.int .u16 (IntKind.u16.wrap (numB ys11)), .int .u16 (IntKind.u16.wrap (numB ys12)), .int .u32 (numB ys13), .int .u32 (numB ys14), .int .u8 (IntKind.u8.wrap (Int.tdiv (b.getD 12 0) 16)), .int .u8 0, .int .u8 (Int.tmod (b.getD 13 0) 64), .int .u16 (IntKind.u16.wrap (numB ys21)), .int .u16 (IntKind.u16.wrap (numB ys22)), .int .u16 (IntKind.u16.wrap (numB ys23))])) QOk.ctxG (by kernel_rfl) (by kernel_rfl) (by kernel_rfl) (by kernel_rfl) (by kernel_rfl) ?_
          refine XD.norm [0, 2, 3, 4, 56] [2, 4] ⟨69, [(0, .v (.slice A b.length c)), (2, .own 2 0), (3, .v (.int .i64 0)), (4, .own 4 0), (56, .v (.agg #[.int .u16 (IntKind.u16.wrap (numB ys11)), .int .u16 (IntKind.u16.wrap (numB ys12)), .int .u32 (numB ys13), .int .u32 (numB ys14), .int .u8 (IntKind.u8.wrap (Int.tdiv (b.getD 12 0) 16)), .int .u8 0, .int .u8 (Int.tmod (b.getD 13 0) 64), .int .u16 (IntKind.u16.wrap (numB ys21)), .int .u16 (IntKind.u16.wrap (numB ys22)), .int .u16 (IntKind.u16.wrap (numB ys23))]))], [(2, ⟨31, [.v (.int .u16 0), .v (.int .u16 0), .v (.int .u32 0), .v (.int .u32 0), .v (.int .u8 0), .v (.int .u8 0), .v (.int .u8 0), .v (.int .u16 0), .v (.int .u16 0), .v (.int .u16 0)]⟩), (4, ⟨31, [.v (.int .u16 0), .v (.int .u16 0), .v (.int .u32 0), .v (.int .u32 0), .v (.int .u8 0), .v (.int .u8 0), .v (.int .u8 0), .v (.int .u16 0), .v (.int .u16 0), .v (.int .u16 0)]⟩)]⟩ (by kernel_rfl) trivial ?_
          refine XD.one (i := 36) (l' := (lb 37 137438953471)) (oA B39 [1, 1, 1, 0] 36) (by kernel_rfl) (by kernel_rfl) (by kernel_rfl) ?_
          refine X.simple (by kernel_rfl) ?_
          refine X.back ⟨trivial, ((((((hG101.trans hG102).trans hG103).trans hG104).trans hG105).trans hG106).trans hG107).le, rfl, ?_⟩
          refine XD.done (by kernel_rfl) ?_
          refine X.run 2 [0, 2, 3, 4] [2, 4] (.code (cA B39 [1, 1, 1, 1, 0])) [.seq (cA B39 [1, 1, 1, 1, 1])] ⟨69, [(0, .v (.slice A b.length c)), (2, .own 2 0), (3, .v (.int .i64 0)), (4, .own 4 0)], [(2, ⟨31, [.v (.int .u16 0), .v (.int .u16 0), .v (.int .u32 0), .v (.int .u32 0), .v (.int .u8 0), .v (.int .u8 0), .v (.int .u8 0), .v (.int .u16 0), .v (.int .u16 0), .v (.int .u16 0)]⟩), (4, ⟨31, [.v (.int .u16 (IntKind.u16.wrap (numB ys11))), .v (.int .u16 (IntKind.u16.wrap (numB ys12))), .v (.int .u32 (numB ys13)), .v (.int .u32 (numB ys14)), .v (.int .u8 (IntKind.u8.wrap (Int.tdiv (b.getD 12 0) 16))), .v (.int .u8 0), .v (.int .u8 (Int.tmod (b.getD 13 0) 64)), .v (.int .u16 (IntKind.u16.wrap (numB ys21))), .v (.int .u16 (IntKind.u16.wrap (numB ys22))), .v (.int .u16 (IntKind.u16.wrap (numB ys23)))]⟩)]⟩ (by kernel_rfl) ?_
          have hb_d108 := hb
          have hr11_d108 := hr11
          have hr12_d108 := hr12
          have hr13_d108 := hr13
          have hr14_d108 := hr14
          have hr21_d108 := hr21
          have hr22_d108 := hr22
          have hr23_d108 := hr23
          refine XD.open (id := 6) (arr := aA B39 [1, 1, 1, 1, 0]) 12 [] [] [] (by kernel_rfl) (by kernel_rfl) (by kernel_rfl) (by kernel_rfl) (by kernel_rfl) trivial (by simp) rfl (fun ρ0 => ?_)
          refine XD.take (i := 0) (l' := (lb 12 1)) (oA B39 [1, 1, 1, 1, 0] 0) (.v (.slice A b.length c)) QOk.ctxG (by kernel_rfl) (by kernel_rfl) (by kernel_rfl) (by kernel_rfl) (by kernel_rfl) ?_
          have b109 : (0 : Int) ≤ 12 := by omega
          have b110 : 12 < ((b.length : Nat) : Int) := by omega
          obtain ⟨at111, lo111, hi111⟩ := At.int [] hb_d108 12 (by omega)
          simp only [IntKind.lo, IntKind.hi] at lo111 hi111
          refine XD.index (i := 1) (l' := (lb 12 3)) (o := (oA B39 [1, 1, 1, 1, 0] 1)) (t := 22) (e := 5) (sz := 1) (A := A) (n := b.length) (c := c) (ki := .i64) (j := 12) (x := .tmp 57) (ix := .const (.int .i64 12)) QOk.ctxG (by kernel_rfl) (by kernel_rfl) (by kernel_rfl) (by kernel_rfl) (by kernel_rfl) (by kernel_rfl) (by kernel_rfl) (by kernel_rfl) b109 b110 (fun _ _ => rowAt.so hb_d108 (by omega)) (by kernel_rfl) ?_
          refine XD.load (i := 2) (l' := (lb 12 7)) (o := (oA B39 [1, 1, 1, 1, 0] 2)) (t := 5) (A := A) (j := 12 * 1) (x := .tmp 58) (z := .int .u8 (b.getD 12 0)) [.int .u8 (b.getD 12 0)] QOk.ctxG (by kernel_rfl) (by kernel_rfl) (by kernel_rfl) (by kernel_rfl) (by kernel_rfl) at111 (by kernel_rfl) (by kernel_rfl) ?_
          refine XD.take (i := 3) (l' := (lb 12 15)) (oA B39 [1, 1, 1, 1, 0] 3) (.v (.int .u8 (Int.tmod (b.getD 12 0) 2))) QOk.ctxG (by kernel_rfl) (by kernel_rfl) (by kernel_rfl) (by kernel_rfl) (by kernel_rfl) ?_
          refine XD.take (i := 4) (l' := (lb 12 31)) (oA B39 [1, 1, 1, 1, 0] 4) (.v (.int .u8 (IntKind.u8.wrap ((Int.tmod (b.getD 12 0) 2) * 4)))) QOk.ctxG (by kernel_rfl) (by kernel_rfl) (by kernel_rfl) (by kernel_rfl) (by kernel_rfl) ?_
          refine XD.take (i := 5) (l' := (lb 12 63)) (oA B39 [1, 1, 1, 1, 0] 5) (.v (.slice A b.length c)) QOk.ctxG (by kernel_rfl) (by kernel_rfl) (by kernel_rfl) (by kernel_rfl) (by kernel_rfl) ?_
          have b112 : (0 : Int) ≤ 13 := by omega
          have b113 : 13 < ((b.length : Nat) : Int) := by omega
          obtain ⟨at114, lo114, hi114⟩ := At.int [] hb_d108 13 (by omega)
          simp only [IntKind.lo, IntKind.hi] at lo114 hi114
          refine XD.index (i := 6) (l' := (lb 12 127)) (o := (oA B39 [1, 1, 1, 1, 0] 6)) (t := 22) (e := 5) (sz := 1) (A := A) (n := b.length) (c := c) (ki := .i64) (j := 13) (x := .tmp 62) (ix := .const (.int .i64 13)) QOk.ctxG (by kernel_rfl) (by kernel_rfl) (by kernel_rfl) (by kernel_rfl) (by kernel_rfl) (by kernel_rfl) (by kernel_rfl) (by kernel_rfl) b112 b113 (fun _ _ => rowAt.so hb_d108 (by omega)) (by kernel_rfl) ?_
          refine XD.load (i := 7) (l' := (lb 12 255)) (o := (oA B39 [1, 1, 1, 1, 0] 7)) (t := 5) (A := A) (j := 13 * 1) (x := .tmp 63) (z := .int .u8 (b.getD 13 0)) [.int .u8 (b.getD 13 0)] QOk.ctxG (by kernel_rfl) (by kernel_rfl) (by kernel_rfl) (by kernel_rfl) (by kernel_rfl) at114 (by kernel_rfl) (by kernel_rfl) ?_
          refine XD.take (i := 8) (l' := (lb 12 511)) (oA B39 [1, 1, 1, 1, 0] 8) (.v (.int .u8 (IntKind.u8.wrap (Int.tdiv (b.getD 13 0) 64)))) QOk.ctxG (by kernel_rfl) (by kernel_rfl) (by kernel_rfl) (by kernel_rfl) (by kernel_rfl) ?_
          refine XD.take (i := 9) (l' := (lb 12 1023)) (oA B39 [1, 1, 1, 1, 0] 9) (.v (.int .u8 (IntKind.u8.wrap ((IntKind.u8.wrap ((Int.tmod (b.getD 12 0) 2) * 4)) + (IntKind.u8.wrap (Int.tdiv (b.getD 13 0) 64)))))) QOk.ctxG (by kernel_rfl) (by kernel_rfl) (by kernel_rfl) (by kernel_rfl) (by kernel_rfl) ?_
          refine XD.take (i := 10) (l' := (lb 12 2047)) (oA B39 [1, 1, 1, 1, 0] 10) (.own 4 5) QOk.ctxG (by kernel_rfl) (by kernel_rfl) (by kernel_rfl) (by kernel_rfl) (by kernel_rfl) ?_
          refine XD.norm [2, 3, 4, 66, 67] [2, 4] ⟨69, [(2, .own 2 0), (3, .v (.int .i64 0)), (4, .own 4 0), (66, .v (.int .u8 (IntKind.u8.wrap ((IntKind.u8.wrap ((Int.tmod (b.getD 12 0) 2) * 4)) + (IntKind.u8.wrap (Int.tdiv (b.getD 13 0) 64)))))), (67, .own 4 5)], [(2, ⟨31, [.v (.int .u16 0), .v (.int .u16 0), .v (.int .u32 0), .v (.int .u32 0), .v (.int .u8 0), .v (.int .u8 0), .v (.int .u8 0), .v (.int .u16 0), .v (.int .u16 0), .v (.int .u16 0)]⟩), (4, ⟨31, [.v (.int .u16 (IntKind.u16.wrap (numB ys11))), .v (.int .u16 (IntKind.u16.wrap (numB ys12))), .v (.int .u32 (numB ys13)), .v (.int .u32 (numB ys14)), .v (.int .u8 (IntKind.u8.wrap (Int.tdiv (b.getD 12 0) 16))), .v (.int .u8 0), .v (.int .u8 (Int.tmod (b.getD 13 0) 64)), .v (.int .u16 (IntKind.u16.wrap (numB ys21))), .v (.int .u16 (IntKind.u16.wrap (numB ys22))), .v (.int .u16 (IntKind.u16.wrap (numB ys23)))]⟩)]⟩ (by kernel_rfl) trivial ?_
          refine XD.one (i := 11) (l' := (lb 12 4095)) (oA B39 [1, 1, 1, 1, 0] 11) (by kernel_rfl) (by kernel_rfl) (by kernel_rfl) ?_
          refine X.simple (by kernel_rfl) ?_
          refine X.back ⟨trivial, Le.refl _, rfl, ?_⟩
          refine XD.done (by kernel_rfl) ?_
          refine X.run 9 [2, 3] [2] (.ex .ret) [] ⟨69, [(2, .own 2 0), (3, .v (.int .i64 0))], [(2, ⟨31, [.v (.int .u16 (IntKind.u16.wrap (numB ys11))), .v (.int .u16 (IntKind.u16.wrap (numB ys12))), .v (.int .u32 (numB ys13)), .v (.int .u32 (numB ys14)), .v (.int .u8 (IntKind.u8.wrap (Int.tdiv (b.getD 12 0) 16))), .v (.int .u8 (IntKind.u8.wrap ((IntKind.u8.wrap ((Int.tmod (b.getD 12 0) 2) * 4)) + (IntKind.u8.wrap (Int.tdiv (b.getD 13 0) 64))))), .v (.int .u8 (Int.tmod (b.getD 13 0) 64)), .v (.int .u16 (IntKind.u16.wrap (numB ys21))), .v (.int .u16 (IntKind.u16.wrap (numB ys22))), .v (.int .u16 (IntKind.u16.wrap (numB ys23)))]⟩)]⟩ (by kernel_rfl) ?_
          refine doneG (.inl rfl) [.agg #[.int .u16 (IntKind.u16.wrap (numB ys11)), .int .u16 (IntKind.u16.wrap (numB ys12)), .int .u32 (numB ys13), .int .u32 (numB ys14), .int .u8 (IntKind.u8.wrap (Int.tdiv (b.getD 12 0) 16)), .int .u8 (IntKind.u8.wrap ((IntKind.u8.wrap ((Int.tmod (b.getD 12 0) 2) * 4)) + (IntKind.u8.wrap (Int.tdiv (b.getD 13 0) 64)))), .int .u8 (Int.tmod (b.getD 13 0) 64), .int .u16 (IntKind.u16.wrap (numB ys21)), .int .u16 (IntKind.u16.wrap (numB ys22)), .int .u16 (IntKind.u16.wrap (numB ys23))], .int .i64 0] [] (by kernel_rfl) rfl rfl (((((((hG101.trans hG102).trans hG103).trans hG104).trans hG105).trans hG106).trans hG107)) ?_
          -- end 11 (FFF)
          subst hys11 hys12 hys13 hys14 hys21 hys22 hys23
          exact ⟨fun h => absurd h (by omega), fun h => absurd h.2 (by intro hh; rcases hh with hh | hh <;> contradiction), fun _ => rfl, rfl⟩
end Go.Proofs.YtjgpdbkkpomhjaaX
