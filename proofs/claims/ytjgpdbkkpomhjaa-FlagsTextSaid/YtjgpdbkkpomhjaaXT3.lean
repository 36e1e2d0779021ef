/- flags.Text, leatref11.Text -/
import Derived.Test.YtjgpdbkkpomhjaaProg
import Derived.KernelRfl
import Derived.Test.YtjgpdbkkpomhjaaXT2
namespace Go.Proofs.YtjgpdbkkpomhjaaX
open Go.RowKit
set_option linter.unusedVariables false
set_option linter.unusedSimpArgs false
set_option maxRecDepth 100000
theorem tx_len (f : Int) : ∀ k : Nat, (tx f k).length ≤ k
  | 0 => Nat.le_refl 0
  | k + 1 => by
    have := tx_len f k
    simp only [tx, List.length_append]
    split <;> simp <;> omega
theorem tx_size (f : Int) {k : Nat} (h : k ≤ 6) : (strOf (tx f k)).size ≤ 6 := by
  rw [strOf_size]
  exact Nat.le_trans (tx_len f k) h
theorem ext_size {s b : ByteArray} {n m : Nat} (h : s.size ≤ 6) (hb : b.size ≤ 1000) : s.size + (b.extract n m).size ≤ 9223372036854775807 := by
  rw [ByteArray.size_extract]
  omega

/-- leat/flags.Text -/
noncomputable def B43 : Code := bodyOf Try.f43
set_option maxHeartbeats 1000000 in
theorem cText_ok (f : Int) (hf0 : 0 ≤ f) (hf1 : f ≤ 255) (G : Mem) : CallsG Try.prog 43 [.int .u8 f] G (fun _ v rows => v = .string (strOf (textL f)) ∧ rows = []) := by
  refine CallsG.enter Try.func43 rfl rfl ?_
  intro w
  refine X.run 13 [0, 2, 3] [] (.ops (aA B43 [1, 1, 0, 0]) (oA B43 [1, 1, 0, 0] 0 :: lA B43 [1, 1, 0, 0] 1)) [.seq (cA B43 [1, 1, 0, 1]), .seq (cA B43 [1, 1, 1])] ⟨26, [(0, .v (.int .u8 f)), (2, .v (.string (⟨#[]⟩ : ByteArray))), (3, .v (.slice none 0 0))], []⟩ (by kernel_rfl) ?_
  refine X.inline (f := 104) (l := []) (fn := Try.f104) (c := B104) (by kernel_rfl) (by kernel_rfl) Try.func104 (by kernel_rfl) ?_
  intro Q1 M1 hM1 hQ1 fin1
  refine X.run 12 [0] [0] (.ex .ret) [] ⟨2, [(0, .own 0 0)], [(0, ⟨148, [.v (.int .i32 70), .v (.int .i32 83), .v (.int .i32 82), .v (.int .i32 80), .v (.int .i32 65), .v (.int .i32 85)]⟩)]⟩ (by kernel_rfl) ?_
  refine fin1 _ _ _ _ [.agg #[.int .i32 70, .int .i32 83, .int .i32 82, .int .i32 80, .int .i32 65, .int .i32 85]] [] (.inl rfl) (by kernel_rfl) (by kernel_rfl) ?_
  refine X.run 4 [0, 2, 3, 6, 7] [] (.code (cA B43 [1, 1, 0, 1, 0])) [.blk 0, .seq (cA B43 [1, 1, 1])] ⟨26, [(0, .v (.int .u8 f)), (2, .v (.string (⟨#[]⟩ : ByteArray))), (3, .v (.slice none 0 0)), (6, .v (.agg #[.int .i32 70, .int .i32 83, .int .i32 82, .int .i32 80, .int .i32 65, .int .i32 85])), (7, .v (.int .i64 0))], []⟩ (by kernel_rfl) ?_
  refine X.nilRow 19 21 1 rfl ?_
  refine X.loopJ (fun m s R' G' => ∃ (A_ : Option Addr) (c_ n_ : Nat) (l_ : List Int) (i : Int), s = ⟨26, [(0, .v (.int .u8 f)), (2, .v (.string (⟨#[]⟩ : ByteArray))), (3, .v (.slice A_ n_ c_)), (6, .v (.agg #[.int .i32 70, .int .i32 83, .int .i32 82, .int .i32 80, .int .i32 65, .int .i32 85])), (7, .v (.int .i64 i))], []⟩ ∧ R' = [(19, ⟨21, 1, .slice A_ n_ c_, n_, (l_).map (Value.int .i32)⟩)] ∧ G = G' ∧ (0 ≤ i ∧ i ≤ 6 ∧ l_ = tx f i.toNat ∧ n_ = l_.length ∧ n_ ≤ i.toNat) ∧ m = (6 - i).toNat) _ ⟨none, 0, 0, [], 0, rfl, rfl, rfl, ⟨by omega, by omega, rfl, rfl, by omega⟩, rfl⟩ ?_
  rintro m2 s2 R2 G2 ⟨A_, c_, n_, l_, i, rfl, rfl, rfl, hF2, rfl⟩ J2 hJ2
  obtain ⟨hi0, hi1, hl, hn, hni⟩ := hF2
  refine X.run 6 [0, 2, 3, 6, 7, 8] [] (.code (cA B43 [1, 1, 0, 1, 0, 0, 1, 0])) [.seq (cA B43 [1, 1, 0, 1, 0, 0, 1, 1]), .loop J2, .blk 0, .seq (cA B43 [1, 1, 1])] ⟨26, [(0, .v (.int .u8 f)), (2, .v (.string (⟨#[]⟩ : ByteArray))), (3, .v (.slice A_ n_ c_)), (6, .v (.agg #[.int .i32 70, .int .i32 83, .int .i32 82, .int .i32 80, .int .i32 65, .int .i32 85])), (7, .v (.int .i64 i)), (8, .v (.bool (decide (i < 6))))], []⟩ (by kernel_rfl) ?_
  refine X.split 8 rfl (fun h3 => ?_) (fun h3 => ?_)
  · -- slot 8: decide (i < 6) is True
    replace h3 : i < 6 := of_decide_eq_true h3
    refine X.run 8 [0, 2, 3, 6, 7, 9] [] (.ops (aA B43 [1, 1, 0, 1, 0, 0, 1, 1, 0, 0, 0]) (oA B43 [1, 1, 0, 1, 0, 0, 1, 1, 0, 0, 0] 1 :: lA B43 [1, 1, 0, 1, 0, 0, 1, 1, 0, 0, 0] 2)) [.seq (cA B43 [1, 1, 0, 1, 0, 0, 1, 1, 0, 0, 1]), .blk 1, .seq (cA B43 [1, 1, 0, 1, 0, 0, 1, 1, 1]), .loop J2, .blk 0, .seq (cA B43 [1, 1, 1])] ⟨26, [(0, .v (.int .u8 f)), (2, .v (.string (⟨#[]⟩ : ByteArray))), (3, .v (.slice A_ n_ c_)), (6, .v (.agg #[.int .i32 70, .int .i32 83, .int .i32 82, .int .i32 80, .int .i32 65, .int .i32 85])), (7, .v (.int .i64 i)), (9, .v (.int .i64 i))], []⟩ (by kernel_rfl) ?_
    have hcs4 : i = 0 ∨ i = 1 ∨ i = 2 ∨ i = 3 ∨ i = 4 ∨ i = 5 := by omega
    rcases hcs4 with rfl | rfl | rfl | rfl | rfl | rfl
    · -- i is 0
      refine X.run 14 [0, 2, 3, 5, 6, 7, 15] [] (.code (cA B43 [1, 1, 0, 1, 0, 0, 1, 1, 0, 0, 1, 1])) [.blk 1, .seq (cA B43 [1, 1, 0, 1, 0, 0, 1, 1, 1]), .loop J2, .blk 0, .seq (cA B43 [1, 1, 1])] ⟨26, [(0, .v (.int .u8 f)), (2, .v (.string (⟨#[]⟩ : ByteArray))), (3, .v (.slice A_ n_ c_)), (5, .v (.int .i32 70)), (6, .v (.agg #[.int .i32 70, .int .i32 83, .int .i32 82, .int .i32 80, .int .i32 65, .int .i32 85])), (7, .v (.int .i64 0)), (15, .v (.bool ((band .u8 (bshr .u8 f 0) 1) == 1)))], []⟩ (by kernel_rfl) ?_
      refine X.split 15 rfl (fun h5 => ?_) (fun h5 => ?_)
      · -- slot 15: (band .u8 (bshr .u8 f 0) 1) == 1 is True
        replace h5 : (band .u8 (bshr .u8 f 0) 1) = 1 := by simpa using h5
        refine X.run 4 [0, 2, 3, 6, 7, 16, 17] [] (.ops (aA B43 [1, 1, 0, 1, 0, 0, 1, 1, 0, 0, 1, 1, 0]) (oA B43 [1, 1, 0, 1, 0, 0, 1, 1, 0, 0, 1, 1, 0] 2 :: lA B43 [1, 1, 0, 1, 0, 0, 1, 1, 0, 0, 1, 1, 0] 3)) [.blk 1, .seq (cA B43 [1, 1, 0, 1, 0, 0, 1, 1, 1]), .loop J2, .blk 0, .seq (cA B43 [1, 1, 1])] ⟨26, [(0, .v (.int .u8 f)), (2, .v (.string (⟨#[]⟩ : ByteArray))), (3, .v (.slice A_ n_ c_)), (6, .v (.agg #[.int .i32 70, .int .i32 83, .int .i32 82, .int .i32 80, .int .i32 65, .int .i32 85])), (7, .v (.int .i64 0)), (16, .v (.slice A_ n_ c_)), (17, .v (.int .i32 70))], []⟩ (by kernel_rfl) ?_
        refine X.lit 18 21 1 1 [.int .i32 70] (by kernel_rfl) (fun g => by kernel_rfl) ?_
        intro A6
        refine X.run 0 [0, 2, 3, 6, 7, 16, 18] [] (.ops (aA B43 [1, 1, 0, 1, 0, 0, 1, 1, 0, 0, 1, 1, 0]) (oA B43 [1, 1, 0, 1, 0, 0, 1, 1, 0, 0, 1, 1, 0] 3 :: lA B43 [1, 1, 0, 1, 0, 0, 1, 1, 0, 0, 1, 1, 0] 4)) [.blk 1, .seq (cA B43 [1, 1, 0, 1, 0, 0, 1, 1, 1]), .loop J2, .blk 0, .seq (cA B43 [1, 1, 1])] ⟨26, [(0, .v (.int .u8 f)), (2, .v (.string (⟨#[]⟩ : ByteArray))), (3, .v (.slice A_ n_ c_)), (6, .v (.agg #[.int .i32 70, .int .i32 83, .int .i32 82, .int .i32 80, .int .i32 65, .int .i32 85])), (7, .v (.int .i64 0)), (16, .v (.slice A_ n_ c_)), (18, .v (.slice A6 1 1))], []⟩ (by kernel_rfl) ?_
        refine X.append 19 ⟨21, 1, .slice A_ n_ c_, n_, (l_).map (Value.int .i32)⟩ 147 4 (.int .i32 0) (x := .tmp 16) (y := .tmp 18) (n := n_) (c := c_) (m := 1) (c2 := 1) (A := A_) (B := A6) (news := [.int .i32 70]) (by kernel_rfl) (by kernel_rfl) (by kernel_rfl) (by kernel_rfl) (by kernel_rfl) rfl (Nat.succ_pos _) (by kernel_rfl) (.inl rfl) rfl rfl (by kernel_rfl) (At.of_row (i := 18) (r := ⟨21, 1, .slice A6 1 1, 1, [.int .i32 70]⟩) rfl rfl) (fun w hw e => absurd (rowSome (i := 18) (q := ⟨21, 1, .slice A6 1 1, 1, [.int .i32 70]⟩) rfl rfl (Nat.succ_pos _) w hw) (by rw [e]; decide)) (ones (by kernel_rfl)) (by omega) (by decide) ?_
        intro A7 c7 hc7
        refine X.tellR [19, 18] (R' := [(19, ⟨21, 1, .slice A7 (n_ + 1) c7, n_ + 1, (l_ ++ [70]).map (Value.int .i32)⟩), (18, ⟨21, 1, .slice A6 1 1, 1, [.int .i32 70]⟩)]) (congrArg (fun cs_ => (19, (⟨21, 1, .slice A7 (n_ + 1) c7, n_ + 1, cs_⟩ : Row)) :: [(18, ⟨21, 1, .slice A6 1 1, 1, [.int .i32 70]⟩)]) (show (l_).map (Value.int .i32) ++ [.int .i32 70] = (l_ ++ [70]).map (Value.int .i32) by simp)) ?_
        refine X.run 8 [0, 2, 3, 6, 7] [] (.ex .normal) [.loop J2, .blk 0, .seq (cA B43 [1, 1, 1])] ⟨26, [(0, .v (.int .u8 f)), (2, .v (.string (⟨#[]⟩ : ByteArray))), (3, .v (.slice A7 (n_ + 1) c7)), (6, .v (.agg #[.int .i32 70, .int .i32 83, .int .i32 82, .int .i32 80, .int .i32 65, .int .i32 85])), (7, .v (.int .i64 1))], []⟩ (by kernel_rfl) ?_
        -- again (T=0T)
        refine X.tellR [19] (R' := [(19, ⟨21, 1, .slice A7 (n_ + 1) c7, n_ + 1, (l_ ++ [70]).map (Value.int .i32)⟩)]) rfl ?_
        have hb_ := bitAt (f := f) hf0 hf1 (k := 0) (by decide)
        exact X.again (hJ2 _ _ _ _ ⟨A7, c7, n_ + 1, l_ ++ [70], 1, rfl, rfl, rfl, ⟨by omega, by omega, by rw [hl]; exact (tx_yes (f := f) (n := 0) (by rw [← hb_]; assumption)).symm, by simp [hn], by have : n_ ≤ 0 := hni; show _ ≤ 1; omega⟩, rfl⟩ (by omega))
      · -- slot 15: (band .u8 (bshr .u8 f 0) 1) == 1 is False
        replace h5 : (band .u8 (bshr .u8 f 0) 1) ≠ 1 := by simpa using h5
        refine X.run 8 [0, 2, 3, 6, 7] [] (.ex .normal) [.loop J2, .blk 0, .seq (cA B43 [1, 1, 1])] ⟨26, [(0, .v (.int .u8 f)), (2, .v (.string (⟨#[]⟩ : ByteArray))), (3, .v (.slice A_ n_ c_)), (6, .v (.agg #[.int .i32 70, .int .i32 83, .int .i32 82, .int .i32 80, .int .i32 65, .int .i32 85])), (7, .v (.int .i64 1))], []⟩ (by kernel_rfl) ?_
        -- again (T=0F)
        have hb_ := bitAt (f := f) hf0 hf1 (k := 0) (by decide)
        exact X.again (hJ2 _ _ _ _ ⟨A_, c_, n_, l_, 1, rfl, rfl, rfl, ⟨by omega, by omega, by rw [hl]; exact (tx_no (f := f) (n := 0) (by rw [← hb_]; assumption)).symm, hn, by have : n_ ≤ 0 := hni; show _ ≤ 1; omega⟩, rfl⟩ (by omega))
    · -- i is 1
      refine X.run 14 [0, 2, 3, 5, 6, 7, 15] [] (.code (cA B43 [1, 1, 0, 1, 0, 0, 1, 1, 0, 0, 1, 1])) [.blk 1, .seq (cA B43 [1, 1, 0, 1, 0, 0, 1, 1, 1]), .loop J2, .blk 0, .seq (cA B43 [1, 1, 1])] ⟨26, [(0, .v (.int .u8 f)), (2, .v (.string (⟨#[]⟩ : ByteArray))), (3, .v (.slice A_ n_ c_)), (5, .v (.int .i32 83)), (6, .v (.agg #[.int .i32 70, .int .i32 83, .int .i32 82, .int .i32 80, .int .i32 65, .int .i32 85])), (7, .v (.int .i64 1)), (15, .v (.bool ((band .u8 (bshr .u8 f 1) 1) == 1)))], []⟩ (by kernel_rfl) ?_
      refine X.split 15 rfl (fun h8 => ?_) (fun h8 => ?_)
      · -- slot 15: (band .u8 (bshr .u8 f 1) 1) == 1 is True
        replace h8 : (band .u8 (bshr .u8 f 1) 1) = 1 := by simpa using h8
        refine X.run 4 [0, 2, 3, 6, 7, 16, 17] [] (.ops (aA B43 [1, 1, 0, 1, 0, 0, 1, 1, 0, 0, 1, 1, 0]) (oA B43 [1, 1, 0, 1, 0, 0, 1, 1, 0, 0, 1, 1, 0] 2 :: lA B43 [1, 1, 0, 1, 0, 0, 1, 1, 0, 0, 1, 1, 0] 3)) [.blk 1, .seq (cA B43 [1, 1, 0, 1, 0, 0, 1, 1, 1]), .loop J2, .blk 0, .seq (cA B43 [1, 1, 1])] ⟨26, [(0, .v (.int .u8 f)), (2, .v (.string (⟨#[]⟩ : ByteArray))), (3, .v (.slice A_ n_ c_)), (6, .v (.agg #[.int .i32 70, .int .i32 83, .int .i32 82, .int .i32 80, .int .i32 65, .int .i32 85])), (7, .v (.int .i64 1)), (16, .v (.slice A_ n_ c_)), (17, .v (.int .i32 83))], []⟩ (by kernel_rfl) ?_
        refine X.lit 18 21 1 1 [.int .i32 83] (by kernel_rfl) (fun g => by kernel_rfl) ?_
        intro A9
        refine X.run 0 [0, 2, 3, 6, 7, 16, 18] [] (.ops (aA B43 [1, 1, 0, 1, 0, 0, 1, 1, 0, 0, 1, 1, 0]) (oA B43 [1, 1, 0, 1, 0, 0, 1, 1, 0, 0, 1, 1, 0] 3 :: lA B43 [1, 1, 0, 1, 0, 0, 1, 1, 0, 0, 1, 1, 0] 4)) [.blk 1, .seq (cA B43 [1, 1, 0, 1, 0, 0, 1, 1, 1]), .loop J2, .blk 0, .seq (cA B43 [1, 1, 1])] ⟨26, [(0, .v (.int .u8 f)), (2, .v (.string (⟨#[]⟩ : ByteArray))), (3, .v (.slice A_ n_ c_)), (6, .v (.agg #[.int .i32 70, .int .i32 83, .int .i32 82, .int .i32 80, .int .i32 65, .int .i32 85])), (7, .v (.int .i64 1)), (16, .v (.slice A_ n_ c_)), (18, .v (.slice A9 1 1))], []⟩ (by kernel_rfl) ?_
        refine X.append 19 ⟨21, 1, .slice A_ n_ c_, n_, (l_).map (Value.int .i32)⟩ 147 4 (.int .i32 0) (x := .tmp 16) (y := .tmp 18) (n := n_) (c := c_) (m := 1) (c2 := 1) (A := A_) (B := A9) (news := [.int .i32 83]) (by kernel_rfl) (by kernel_rfl) (by kernel_rfl) (by kernel_rfl) (by kernel_rfl) rfl (Nat.succ_pos _) (by kernel_rfl) (.inl rfl) rfl rfl (by kernel_rfl) (At.of_row (i := 18) (r := ⟨21, 1, .slice A9 1 1, 1, [.int .i32 83]⟩) rfl rfl) (fun w hw e => absurd (rowSome (i := 18) (q := ⟨21, 1, .slice A9 1 1, 1, [.int .i32 83]⟩) rfl rfl (Nat.succ_pos _) w hw) (by rw [e]; decide)) (ones (by kernel_rfl)) (by omega) (by decide) ?_
        intro A10 c10 hc10
        refine X.tellR [19, 18] (R' := [(19, ⟨21, 1, .slice A10 (n_ + 1) c10, n_ + 1, (l_ ++ [83]).map (Value.int .i32)⟩), (18, ⟨21, 1, .slice A9 1 1, 1, [.int .i32 83]⟩)]) (congrArg (fun cs_ => (19, (⟨21, 1, .slice A10 (n_ + 1) c10, n_ + 1, cs_⟩ : Row)) :: [(18, ⟨21, 1, .slice A9 1 1, 1, [.int .i32 83]⟩)]) (show (l_).map (Value.int .i32) ++ [.int .i32 83] = (l_ ++ [83]).map (Value.int .i32) by simp)) ?_
        refine X.run 8 [0, 2, 3, 6, 7] [] (.ex .normal) [.loop J2, .blk 0, .seq (cA B43 [1, 1, 1])] ⟨26, [(0, .v (.int .u8 f)), (2, .v (.string (⟨#[]⟩ : ByteArray))), (3, .v (.slice A10 (n_ + 1) c10)), (6, .v (.agg #[.int .i32 70, .int .i32 83, .int .i32 82, .int .i32 80, .int .i32 65, .int .i32 85])), (7, .v (.int .i64 2))], []⟩ (by kernel_rfl) ?_
        -- again (T=1T)
        refine X.tellR [19] (R' := [(19, ⟨21, 1, .slice A10 (n_ + 1) c10, n_ + 1, (l_ ++ [83]).map (Value.int .i32)⟩)]) rfl ?_
        have hb_ := bitAt (f := f) hf0 hf1 (k := 1) (by decide)
        exact X.again (hJ2 _ _ _ _ ⟨A10, c10, n_ + 1, l_ ++ [83], 2, rfl, rfl, rfl, ⟨by omega, by omega, by rw [hl]; exact (tx_yes (f := f) (n := 1) (by rw [← hb_]; assumption)).symm, by simp [hn], by have : n_ ≤ 1 := hni; show _ ≤ 2; omega⟩, rfl⟩ (by omega))
      · -- slot 15: (band .u8 (bshr .u8 f 1) 1) == 1 is False
        replace h8 : (band .u8 (bshr .u8 f 1) 1) ≠ 1 := by simpa using h8
        refine X.run 8 [0, 2, 3, 6, 7] [] (.ex .normal) [.loop J2, .blk 0, .seq (cA B43 [1, 1, 1])] ⟨26, [(0, .v (.int .u8 f)), (2, .v (.string (⟨#[]⟩ : ByteArray))), (3, .v (.slice A_ n_ c_)), (6, .v (.agg #[.int .i32 70, .int .i32 83, .int .i32 82, .int .i32 80, .int .i32 65, .int .i32 85])), (7, .v (.int .i64 2))], []⟩ (by kernel_rfl) ?_
        -- again (T=1F)
        have hb_ := bitAt (f := f) hf0 hf1 (k := 1) (by decide)
        exact X.again (hJ2 _ _ _ _ ⟨A_, c_, n_, l_, 2, rfl, rfl, rfl, ⟨by omega, by omega, by rw [hl]; exact (tx_no (f := f) (n := 1) (by rw [← hb_]; assumption)).symm, hn, by have : n_ ≤ 1 := hni; show _ ≤ 2; omega⟩, rfl⟩ (by omega))
    · -- i is 2
      refine X.run 14 [0, 2, 3, 5, 6, 7, 15] [] (.code (cA B43 [1, 1, 0, 1, 0, 0, 1, 1, 0, 0, 1, 1])) [.blk 1, .seq (cA B43 [1, 1, 0, 1, 0, 0, 1, 1, 1]), .loop J2, .blk 0, .seq (cA B43 [1, 1, 1])] ⟨26, [(0, .v (.int .u8 f)), (2, .v (.string (⟨#[]⟩ : ByteArray))), (3, .v (.slice A_ n_ c_)), (5, .v (.int .i32 82)), (6, .v (.agg #[.int .i32 70, .int .i32 83, .int .i32 82, .int .i32 80, .int .i32 65, .int .i32 85])), (7, .v (.int .i64 2)), (15, .v (.bool ((band .u8 (bshr .u8 f 2) 1) == 1)))], []⟩ (by kernel_rfl) ?_
      refine X.split 15 rfl (fun h11 => ?_) (fun h11 => ?_)
      · -- slot 15: (band .u8 (bshr .u8 f 2) 1) == 1 is True
        replace h11 : (band .u8 (bshr .u8 f 2) 1) = 1 := by simpa using h11
        refine X.run 4 [0, 2, 3, 6, 7, 16, 17] [] (.ops (aA B43 [1, 1, 0, 1, 0, 0, 1, 1, 0, 0, 1, 1, 0]) (oA B43 [1, 1, 0, 1, 0, 0, 1, 1, 0, 0, 1, 1, 0] 2 :: lA B43 [1, 1, 0, 1, 0, 0, 1, 1, 0, 0, 1, 1, 0] 3)) [.blk 1, .seq (cA B43 [1, 1, 0, 1, 0, 0, 1, 1, 1]), .loop J2, .blk 0, .seq (cA B43 [1, 1, 1])] ⟨26, [(0, .v (.int .u8 f)), (2, .v (.string (⟨#[]⟩ : ByteArray))), (3, .v (.slice A_ n_ c_)), (6, .v (.agg #[.int .i32 70, .int .i32 83, .int .i32 82, .int .i32 80, .int .i32 65, .int .i32 85])), (7, .v (.int .i64 2)), (16, .v (.slice A_ n_ c_)), (17, .v (.int .i32 82))], []⟩ (by kernel_rfl) ?_
        refine X.lit 18 21 1 1 [.int .i32 82] (by kernel_rfl) (fun g => by kernel_rfl) ?_
        intro A12
        refine X.run 0 [0, 2, 3, 6, 7, 16, 18] [] (.ops (aA B43 [1, 1, 0, 1, 0, 0, 1, 1, 0, 0, 1, 1, 0]) (oA B43 [1, 1, 0, 1, 0, 0, 1, 1, 0, 0, 1, 1, 0] 3 :: lA B43 [1, 1, 0, 1, 0, 0, 1, 1, 0, 0, 1, 1, 0] 4)) [.blk 1, .seq (cA B43 [1, 1, 0, 1, 0, 0, 1, 1, 1]), .loop J2, .blk 0, .seq (cA B43 [1, 1, 1])] ⟨26, [(0, .v (.int .u8 f)), (2, .v (.string (⟨#[]⟩ : ByteArray))), (3, .v (.slice A_ n_ c_)), (6, .v (.agg #[.int .i32 70, .int .i32 83, .int .i32 82, .int .i32 80, .int .i32 65, .int .i32 85])), (7, .v (.int .i64 2)), (16, .v (.slice A_ n_ c_)), (18, .v (.slice A12 1 1))], []⟩ (by kernel_rfl) ?_
        refine X.append 19 ⟨21, 1, .slice A_ n_ c_, n_, (l_).map (Value.int .i32)⟩ 147 4 (.int .i32 0) (x := .tmp 16) (y := .tmp 18) (n := n_) (c := c_) (m := 1) (c2 := 1) (A := A_) (B := A12) (news := [.int .i32 82]) (by kernel_rfl) (by kernel_rfl) (by kernel_rfl) (by kernel_rfl) (by kernel_rfl) rfl (Nat.succ_pos _) (by kernel_rfl) (.inl rfl) rfl rfl (by kernel_rfl) (At.of_row (i := 18) (r := ⟨21, 1, .slice A12 1 1, 1, [.int .i32 82]⟩) rfl rfl) (fun w hw e => absurd (rowSome (i := 18) (q := ⟨21, 1, .slice A12 1 1, 1, [.int .i32 82]⟩) rfl rfl (Nat.succ_pos _) w hw) (by rw [e]; decide)) (ones (by kernel_rfl)) (by omega) (by decide) ?_
        intro A13 c13 hc13
        refine X.tellR [19, 18] (R' := [(19, ⟨21, 1, .slice A13 (n_ + 1) c13, n_ + 1, (l_ ++ [82]).map (Value.int .i32)⟩), (18, ⟨21, 1, .slice A12 1 1, 1, [.int .i32 82]⟩)]) (congrArg (fun cs_ => (19, (⟨21, 1, .slice A13 (n_ + 1) c13, n_ + 1, cs_⟩ : Row)) :: [(18, ⟨21, 1, .slice A12 1 1, 1, [.int .i32 82]⟩)]) (show (l_).map (Value.int .i32) ++ [.int .i32 82] = (l_ ++ [82]).map (Value.int .i32) by simp)) ?_
        refine X.run 8 [0, 2, 3, 6, 7] [] (.ex .normal) [.loop J2, .blk 0, .seq (cA B43 [1, 1, 1])] ⟨26, [(0, .v (.int .u8 f)), (2, .v (.string (⟨#[]⟩ : ByteArray))), (3, .v (.slice A13 (n_ + 1) c13)), (6, .v (.agg #[.int .i32 70, .int .i32 83, .int .i32 82, .int .i32 80, .int .i32 65, .int .i32 85])), (7, .v (.int .i64 3))], []⟩ (by kernel_rfl) ?_
        -- again (T=2T)
        refine X.tellR [19] (R' := [(19, ⟨21, 1, .slice A13 (n_ + 1) c13, n_ + 1, (l_ ++ [82]).map (Value.int .i32)⟩)]) rfl ?_
        have hb_ := bitAt (f := f) hf0 hf1 (k := 2) (by decide)
        exact X.again (hJ2 _ _ _ _ ⟨A13, c13, n_ + 1, l_ ++ [82], 3, rfl, rfl, rfl, ⟨by omega, by omega, by rw [hl]; exact (tx_yes (f := f) (n := 2) (by rw [← hb_]; assumption)).symm, by simp [hn], by have : n_ ≤ 2 := hni; show _ ≤ 3; omega⟩, rfl⟩ (by omega))
      · -- slot 15: (band .u8 (bshr .u8 f 2) 1) == 1 is False
        replace h11 : (band .u8 (bshr .u8 f 2) 1) ≠ 1 := by simpa using h11
        refine X.run 8 [0, 2, 3, 6, 7] [] (.ex .normal) [.loop J2, .blk 0, .seq (cA B43 [1, 1, 1])] ⟨26, [(0, .v (.int .u8 f)), (2, .v (.string (⟨#[]⟩ : ByteArray))), (3, .v (.slice A_ n_ c_)), (6, .v (.agg #[.int .i32 70, .int .i32 83, .int .i32 82, .int .i32 80, .int .i32 65, .int .i32 85])), (7, .v (.int .i64 3))], []⟩ (by kernel_rfl) ?_
        -- again (T=2F)
        have hb_ := bitAt (f := f) hf0 hf1 (k := 2) (by decide)
        exact X.again (hJ2 _ _ _ _ ⟨A_, c_, n_, l_, 3, rfl, rfl, rfl, ⟨by omega, by omega, by rw [hl]; exact (tx_no (f := f) (n := 2) (by rw [← hb_]; assumption)).symm, hn, by have : n_ ≤ 2 := hni; show _ ≤ 3; omega⟩, rfl⟩ (by omega))
    · -- i is 3
      refine X.run 14 [0, 2, 3, 5, 6, 7, 15] [] (.code (cA B43 [1, 1, 0, 1, 0, 0, 1, 1, 0, 0, 1, 1])) [.blk 1, .seq (cA B43 [1, 1, 0, 1, 0, 0, 1, 1, 1]), .loop J2, .blk 0, .seq (cA B43 [1, 1, 1])] ⟨26, [(0, .v (.int .u8 f)), (2, .v (.string (⟨#[]⟩ : ByteArray))), (3, .v (.slice A_ n_ c_)), (5, .v (.int .i32 80)), (6, .v (.agg #[.int .i32 70, .int .i32 83, .int .i32 82, .int .i32 80, .int .i32 65, .int .i32 85])), (7, .v (.int .i64 3)), (15, .v (.bool ((band .u8 (bshr .u8 f 3) 1) == 1)))], []⟩ (by kernel_rfl) ?_
      refine X.split 15 rfl (fun h14 => ?_) (fun h14 => ?_)
      · -- slot 15: (band .u8 (bshr .u8 f 3) 1) == 1 is True
        replace h14 : (band .u8 (bshr .u8 f 3) 1) = 1 := by simpa using h14
        refine X.run 4 [0, 2, 3, 6, 7, 16, 17] [] (.ops (aA B43 [1, 1, 0, 1, 0, 0, 1, 1, 0, 0, 1, 1, 0]) (oA B43 [1, 1, 0, 1, 0, 0, 1, 1, 0, 0, 1, 1, 0] 2 :: lA B43 [1, 1, 0, 1, 0, 0, 1, 1, 0, 0, 1, 1, 0] 3)) [.blk 1, .seq (cA B43 [1, 1, 0, 1, 0, 0, 1, 1, 1]), .loop J2, .blk 0, .seq (cA B43 [1, 1, 1])] ⟨26, [(0, .v (.int .u8 f)), (2, .v (.string (⟨#[]⟩ : ByteArray))), (3, .v (.slice A_ n_ c_)), (6, .v (.agg #[.int .i32 70, .int .i32 83, .int .i32 82, .int .i32 80, .int .i32 65, .int .i32 85])), (7, .v (.int .i64 3)), (16, .v (.slice A_ n_ c_)), (17, .v (.int .i32 80))], []⟩ (by kernel_rfl) ?_
        refine X.lit 18 21 1 1 [.int .i32 80] (by kernel_rfl) (fun g => by kernel_rfl) ?_
        intro A15
        refine X.run 0 [0, 2, 3, 6, 7, 16, 18] [] (.ops (aA B43 [1, 1, 0, 1, 0, 0, 1, 1, 0, 0, 1, 1, 0]) (oA B43 [1, 1, 0, 1, 0, 0, 1, 1, 0, 0, 1, 1, 0] 3 :: lA B43 [1, 1, 0, 1, 0, 0, 1, 1, 0, 0, 1, 1, 0] 4)) [.blk 1, .seq (cA B43 [1, 1, 0, 1, 0, 0, 1, 1, 1]), .loop J2, .blk 0, .seq (cA B43 [1, 1, 1])] ⟨26, [(0, .v (.int .u8 f)), (2, .v (.string (⟨#[]⟩ : ByteArray))), (3, .v (.slice A_ n_ c_)), (6, .v (.agg #[.int .i32 70, .int .i32 83, .int .i32 82, .int .i32 80, .int .i32 65, .int .i32 85])), (7, .v (.int .i64 3)), (16, .v (.slice A_ n_ c_)), (18, .v (.slice A15 1 1))], []⟩ (by kernel_rfl) ?_
        refine X.append 19 ⟨21, 1, .slice A_ n_ c_, n_, (l_).map (Value.int .i32)⟩ 147 4 (.int .i32 0) (x := .tmp 16) (y := .tmp 18) (n := n_) (c := c_) (m := 1) (c2 := 1) (A := A_) (B := A15) (news := [.int .i32 80]) (by kernel_rfl) (by kernel_rfl) (by kernel_rfl) (by kernel_rfl) (by kernel_rfl) rfl (Nat.succ_pos _) (by kernel_rfl) (.inl rfl) rfl rfl (by kernel_rfl) (At.of_row (i := 18) (r := ⟨21, 1, .slice A15 1 1, 1, [.int .i32 80]⟩) rfl rfl) (fun w hw e => absurd (rowSome (i := 18) (q := ⟨21, 1, .slice A15 1 1, 1, [.int .i32 80]⟩) rfl rfl (Nat.succ_pos _) w hw) (by rw [e]; decide)) (ones (by kernel_rfl)) (by omega) (by decide) ?_
        intro A16 c16 hc16
        refine X.tellR [19, 18] (R' := [(19, ⟨21, 1, .slice A16 (n_ + 1) c16, n_ + 1, (l_ ++ [80]).map (Value.int .i32)⟩), (18, ⟨21, 1, .slice A15 1 1, 1, [.int .i32 80]⟩)]) (congrArg (fun cs_ => (19, (⟨21, 1, .slice A16 (n_ + 1) c16, n_ + 1, cs_⟩ : Row)) :: [(18, ⟨21, 1, .slice A15 1 1, 1, [.int .i32 80]⟩)]) (show (l_).map (Value.int .i32) ++ [.int .i32 80] = (l_ ++ [80]).map (Value.int .i32) by simp)) ?_
        refine X.run 8 [0, 2, 3, 6, 7] [] (.ex .normal) [.loop J2, .blk 0, .seq (cA B43 [1, 1, 1])] ⟨26, [(0, .v (.int .u8 f)), (2, .v (.string (⟨#[]⟩ : ByteArray))), (3, .v (.slice A16 (n_ + 1) c16)), (6, .v (.agg #[.int .i32 70, .int .i32 83, .int .i32 82, .int .i32 80, .int .i32 65, .int .i32 85])), (7, .v (.int .i64 4))], []⟩ (by kernel_rfl) ?_
        -- again (T=3T)
        refine X.tellR [19] (R' := [(19, ⟨21, 1, .slice A16 (n_ + 1) c16, n_ + 1, (l_ ++ [80]).map (Value.int .i32)⟩)]) rfl ?_
        have hb_ := bitAt (f := f) hf0 hf1 (k := 3) (by decide)
        exact X.again (hJ2 _ _ _ _ ⟨A16, c16, n_ + 1, l_ ++ [80], 4, rfl, rfl, rfl, ⟨by omega, by omega, by rw [hl]; exact (tx_yes (f := f) (n := 3) (by rw [← hb_]; assumption)).symm, by simp [hn], by have : n_ ≤ 3 := hni; show _ ≤ 4; omega⟩, rfl⟩ (by omega))
      · -- slot 15: (band .u8 (bshr .u8 f 3) 1) == 1 is False
        replace h14 : (band .u8 (bshr .u8 f 3) 1) ≠ 1 := by simpa using h14
        refine X.run 8 [0, 2, 3, 6, 7] [] (.ex .normal) [.loop J2, .blk 0, .seq (cA B43 [1, 1, 1])] ⟨26, [(0, .v (.int .u8 f)), (2, .v (.string (⟨#[]⟩ : ByteArray))), (3, .v (.slice A_ n_ c_)), (6, .v (.agg #[.int .i32 70, .int .i32 83, .int .i32 82, .int .i32 80, .int .i32 65, .int .i32 85])), (7, .v (.int .i64 4))], []⟩ (by kernel_rfl) ?_
        -- again (T=3F)
        have hb_ := bitAt (f := f) hf0 hf1 (k := 3) (by decide)
        exact X.again (hJ2 _ _ _ _ ⟨A_, c_, n_, l_, 4, rfl, rfl, rfl, ⟨by omega, by omega, by rw [hl]; exact (tx_no (f := f) (n := 3) (by rw [← hb_]; assumption)).symm, hn, by have : n_ ≤ 3 := hni; show _ ≤ 4; omega⟩, rfl⟩ (by omega))
    · -- i is 4
      refine X.run 14 [0, 2, 3, 5, 6, 7, 15] [] (.code (cA B43 [1, 1, 0, 1, 0, 0, 1, 1, 0, 0, 1, 1])) [.blk 1, .seq (cA B43 [1, 1, 0, 1, 0, 0, 1, 1, 1]), .loop J2, .blk 0, .seq (cA B43 [1, 1, 1])] ⟨26, [(0, .v (.int .u8 f)), (2, .v (.string (⟨#[]⟩ : ByteArray))), (3, .v (.slice A_ n_ c_)), (5, .v (.int .i32 65)), (6, .v (.agg #[.int .i32 70, .int .i32 83, .int .i32 82, .int .i32 80, .int .i32 65, .int .i32 85])), (7, .v (.int .i64 4)), (15, .v (.bool ((band .u8 (bshr .u8 f 4) 1) == 1)))], []⟩ (by kernel_rfl) ?_
      refine X.split 15 rfl (fun h17 => ?_) (fun h17 => ?_)
      · -- slot 15: (band .u8 (bshr .u8 f 4) 1) == 1 is True
        replace h17 : (band .u8 (bshr .u8 f 4) 1) = 1 := by simpa using h17
        refine X.run 4 [0, 2, 3, 6, 7, 16, 17] [] (.ops (aA B43 [1, 1, 0, 1, 0, 0, 1, 1, 0, 0, 1, 1, 0]) (oA B43 [1, 1, 0, 1, 0, 0, 1, 1, 0, 0, 1, 1, 0] 2 :: lA B43 [1, 1, 0, 1, 0, 0, 1, 1, 0, 0, 1, 1, 0] 3)) [.blk 1, .seq (cA B43 [1, 1, 0, 1, 0, 0, 1, 1, 1]), .loop J2, .blk 0, .seq (cA B43 [1, 1, 1])] ⟨26, [(0, .v (.int .u8 f)), (2, .v (.string (⟨#[]⟩ : ByteArray))), (3, .v (.slice A_ n_ c_)), (6, .v (.agg #[.int .i32 70, .int .i32 83, .int .i32 82, .int .i32 80, .int .i32 65, .int .i32 85])), (7, .v (.int .i64 4)), (16, .v (.slice A_ n_ c_)), (17, .v (.int .i32 65))], []⟩ (by kernel_rfl) ?_
        refine X.lit 18 21 1 1 [.int .i32 65] (by kernel_rfl) (fun g => by kernel_rfl) ?_
        intro A18
        refine X.run 0 [0, 2, 3, 6, 7, 16, 18] [] (.ops (aA B43 [1, 1, 0, 1, 0, 0, 1, 1, 0, 0, 1, 1, 0]) (oA B43 [1, 1, 0, 1, 0, 0, 1, 1, 0, 0, 1, 1, 0] 3 :: lA B43 [1, 1, 0, 1, 0, 0, 1, 1, 0, 0, 1, 1, 0] 4)) [.blk 1, .seq (cA B43 [1, 1, 0, 1, 0, 0, 1, 1, 1]), .loop J2, .blk 0, .seq (cA B43 [1, 1, 1])] ⟨26, [(0, .v (.int .u8 f)), (2, .v (.string (⟨#[]⟩ : ByteArray))), (3, .v (.slice A_ n_ c_)), (6, .v (.agg #[.int .i32 70, .int .i32 83, .int .i32 82, .int .i32 80, .int .i32 65, .int .i32 85])), (7, .v (.int .i64 4)), (16, .v (.slice A_ n_ c_)), (18, .v (.slice A18 1 1))], []⟩ (by kernel_rfl) ?_
        refine X.append 19 ⟨21, 1, .slice A_ n_ c_, n_, (l_).map (Value.int .i32)⟩ 147 4 (.int .i32 0) (x := .tmp 16) (y := .tmp 18) (n := n_) (c := c_) (m := 1) (c2 := 1) (A := A_) (B := A18) (news := [.int .i32 65]) (by kernel_rfl) (by kernel_rfl) (by kernel_rfl) (by kernel_rfl) (by kernel_rfl) rfl (Nat.succ_pos _) (by kernel_rfl) (.inl rfl) rfl rfl (by kernel_rfl) (At.of_row (i := 18) (r := ⟨21, 1, .slice A18 1 1, 1, [.int .i32 65]⟩) rfl rfl) (fun w hw e => absurd (rowSome (i := 18) (q := ⟨21, 1, .slice A18 1 1, 1, [.int .i32 65]⟩) rfl rfl (Nat.succ_pos _) w hw) (by rw [e]; decide)) (ones (by kernel_rfl)) (by omega) (by decide) ?_
        intro A19 c19 hc19
        refine X.tellR [19, 18] (R' := [(19, ⟨21, 1, .slice A19 (n_ + 1) c19, n_ + 1, (l_ ++ [65]).map (Value.int .i32)⟩), (18, ⟨21, 1, .slice A18 1 1, 1, [.int .i32 65]⟩)]) (congrArg (fun cs_ => (19, (⟨21, 1, .slice A19 (n_ + 1) c19, n_ + 1, cs_⟩ : Row)) :: [(18, ⟨21, 1, .slice A18 1 1, 1, [.int .i32 65]⟩)]) (show (l_).map (Value.int .i32) ++ [.int .i32 65] = (l_ ++ [65]).map (Value.int .i32) by simp)) ?_
        refine X.run 8 [0, 2, 3, 6, 7] [] (.ex .normal) [.loop J2, .blk 0, .seq (cA B43 [1, 1, 1])] ⟨26, [(0, .v (.int .u8 f)), (2, .v (.string (⟨#[]⟩ : ByteArray))), (3, .v (.slice A19 (n_ + 1) c19)), (6, .v (.agg #[.int .i32 70, .int .i32 83, .int .i32 82, .int .i32 80, .int .i32 65, .int .i32 85])), (7, .v (.int .i64 5))], []⟩ (by kernel_rfl) ?_
        -- again (T=4T)
        refine X.tellR [19] (R' := [(19, ⟨21, 1, .slice A19 (n_ + 1) c19, n_ + 1, (l_ ++ [65]).map (Value.int .i32)⟩)]) rfl ?_
        have hb_ := bitAt (f := f) hf0 hf1 (k := 4) (by decide)
        exact X.again (hJ2 _ _ _ _ ⟨A19, c19, n_ + 1, l_ ++ [65], 5, rfl, rfl, rfl, ⟨by omega, by omega, by rw [hl]; exact (tx_yes (f := f) (n := 4) (by rw [← hb_]; assumption)).symm, by simp [hn], by have : n_ ≤ 4 := hni; show _ ≤ 5; omega⟩, rfl⟩ (by omega))
      · -- slot 15: (band .u8 (bshr .u8 f 4) 1) == 1 is False
        replace h17 : (band .u8 (bshr .u8 f 4) 1) ≠ 1 := by simpa using h17
        refine X.run 8 [0, 2, 3, 6, 7] [] (.ex .normal) [.loop J2, .blk 0, .seq (cA B43 [1, 1, 1])] ⟨26, [(0, .v (.int .u8 f)), (2, .v (.string (⟨#[]⟩ : ByteArray))), (3, .v (.slice A_ n_ c_)), (6, .v (.agg #[.int .i32 70, .int .i32 83, .int .i32 82, .int .i32 80, .int .i32 65, .int .i32 85])), (7, .v (.int .i64 5))], []⟩ (by kernel_rfl) ?_
        -- again (T=4F)
        have hb_ := bitAt (f := f) hf0 hf1 (k := 4) (by decide)
        exact X.again (hJ2 _ _ _ _ ⟨A_, c_, n_, l_, 5, rfl, rfl, rfl, ⟨by omega, by omega, by rw [hl]; exact (tx_no (f := f) (n := 4) (by rw [← hb_]; assumption)).symm, hn, by have : n_ ≤ 4 := hni; show _ ≤ 5; omega⟩, rfl⟩ (by omega))
    · -- i is 5
      refine X.run 14 [0, 2, 3, 5, 6, 7, 15] [] (.code (cA B43 [1, 1, 0, 1, 0, 0, 1, 1, 0, 0, 1, 1])) [.blk 1, .seq (cA B43 [1, 1, 0, 1, 0, 0, 1, 1, 1]), .loop J2, .blk 0, .seq (cA B43 [1, 1, 1])] ⟨26, [(0, .v (.int .u8 f)), (2, .v (.string (⟨#[]⟩ : ByteArray))), (3, .v (.slice A_ n_ c_)), (5, .v (.int .i32 85)), (6, .v (.agg #[.int .i32 70, .int .i32 83, .int .i32 82, .int .i32 80, .int .i32 65, .int .i32 85])), (7, .v (.int .i64 5)), (15, .v (.bool ((band .u8 (bshr .u8 f 5) 1) == 1)))], []⟩ (by kernel_rfl) ?_
      refine X.split 15 rfl (fun h20 => ?_) (fun h20 => ?_)
      · -- slot 15: (band .u8 (bshr .u8 f 5) 1) == 1 is True
        replace h20 : (band .u8 (bshr .u8 f 5) 1) = 1 := by simpa using h20
        refine X.run 4 [0, 2, 3, 6, 7, 16, 17] [] (.ops (aA B43 [1, 1, 0, 1, 0, 0, 1, 1, 0, 0, 1, 1, 0]) (oA B43 [1, 1, 0, 1, 0, 0, 1, 1, 0, 0, 1, 1, 0] 2 :: lA B43 [1, 1, 0, 1, 0, 0, 1, 1, 0, 0, 1, 1, 0] 3)) [.blk 1, .seq (cA B43 [1, 1, 0, 1, 0, 0, 1, 1, 1]), .loop J2, .blk 0, .seq (cA B43 [1, 1, 1])] ⟨26, [(0, .v (.int .u8 f)), (2, .v (.string (⟨#[]⟩ : ByteArray))), (3, .v (.slice A_ n_ c_)), (6, .v (.agg #[.int .i32 70, .int .i32 83, .int .i32 82, .int .i32 80, .int .i32 65, .int .i32 85])), (7, .v (.int .i64 5)), (16, .v (.slice A_ n_ c_)), (17, .v (.int .i32 85))], []⟩ (by kernel_rfl) ?_
        refine X.lit 18 21 1 1 [.int .i32 85] (by kernel_rfl) (fun g => by kernel_rfl) ?_
        intro A21
        refine X.run 0 [0, 2, 3, 6, 7, 16, 18] [] (.ops (aA B43 [1, 1, 0, 1, 0, 0, 1, 1, 0, 0, 1, 1, 0]) (oA B43 [1, 1, 0, 1, 0, 0, 1, 1, 0, 0, 1, 1, 0] 3 :: lA B43 [1, 1, 0, 1, 0, 0, 1, 1, 0, 0, 1, 1, 0] 4)) [.blk 1, .seq (cA B43 [1, 1, 0, 1, 0, 0, 1, 1, 1]), .loop J2, .blk 0, .seq (cA B43 [1, 1, 1])] ⟨26, [(0, .v (.int .u8 f)), (2, .v (.string (⟨#[]⟩ : ByteArray))), (3, .v (.slice A_ n_ c_)), (6, .v (.agg #[.int .i32 70, .int .i32 83, .int .i32 82, .int .i32 80, .int .i32 65, .int .i32 85])), (7, .v (.int .i64 5)), (16, .v (.slice A_ n_ c_)), (18, .v (.slice A21 1 1))], []⟩ (by kernel_rfl) ?_
        refine X.append 19 ⟨21, 1, .slice A_ n_ c_, n_, (l_).map (Value.int .i32)⟩ 147 4 (.int .i32 0) (x := .tmp 16) (y := .tmp 18) (n := n_) (c := c_) (m := 1) (c2 := 1) (A := A_) (B := A21) (news := [.int .i32 85]) (by kernel_rfl) (by kernel_rfl) (by kernel_rfl) (by kernel_rfl) (by kernel_rfl) rfl (Nat.succ_pos _) (by kernel_rfl) (.inl rfl) rfl rfl (by kernel_rfl) (At.of_row (i := 18) (r := ⟨21, 1, .slice A21 1 1, 1, [.int .i32 85]⟩) rfl rfl) (fun w hw e => absurd (rowSome (i := 18) (q := ⟨21, 1, .slice A21 1 1, 1, [.int .i32 85]⟩) rfl rfl (Nat.succ_pos _) w hw) (by rw [e]; decide)) (ones (by kernel_rfl)) (by omega) (by decide) ?_
        intro A22 c22 hc22
        refine X.tellR [19, 18] (R' := [(19, ⟨21, 1, .slice A22 (n_ + 1) c22, n_ + 1, (l_ ++ [85]).map (Value.int .i32)⟩), (18, ⟨21, 1, .slice A21 1 1, 1, [.int .i32 85]⟩)]) (congrArg (fun cs_ => (19, (⟨21, 1, .slice A22 (n_ + 1) c22, n_ + 1, cs_⟩ : Row)) :: [(18, ⟨21, 1, .slice A21 1 1, 1, [.int .i32 85]⟩)]) (show (l_).map (Value.int .i32) ++ [.int .i32 85] = (l_ ++ [85]).map (Value.int .i32) by simp)) ?_
        refine X.run 8 [0, 2, 3, 6, 7] [] (.ex .normal) [.loop J2, .blk 0, .seq (cA B43 [1, 1, 1])] ⟨26, [(0, .v (.int .u8 f)), (2, .v (.string (⟨#[]⟩ : ByteArray))), (3, .v (.slice A22 (n_ + 1) c22)), (6, .v (.agg #[.int .i32 70, .int .i32 83, .int .i32 82, .int .i32 80, .int .i32 65, .int .i32 85])), (7, .v (.int .i64 6))], []⟩ (by kernel_rfl) ?_
        -- again (T=5T)
        refine X.tellR [19] (R' := [(19, ⟨21, 1, .slice A22 (n_ + 1) c22, n_ + 1, (l_ ++ [85]).map (Value.int .i32)⟩)]) rfl ?_
        have hb_ := bitAt (f := f) hf0 hf1 (k := 5) (by decide)
        exact X.again (hJ2 _ _ _ _ ⟨A22, c22, n_ + 1, l_ ++ [85], 6, rfl, rfl, rfl, ⟨by omega, by omega, by rw [hl]; exact (tx_yes (f := f) (n := 5) (by rw [← hb_]; assumption)).symm, by simp [hn], by have : n_ ≤ 5 := hni; show _ ≤ 6; omega⟩, rfl⟩ (by omega))
      · -- slot 15: (band .u8 (bshr .u8 f 5) 1) == 1 is False
        replace h20 : (band .u8 (bshr .u8 f 5) 1) ≠ 1 := by simpa using h20
        refine X.run 8 [0, 2, 3, 6, 7] [] (.ex .normal) [.loop J2, .blk 0, .seq (cA B43 [1, 1, 1])] ⟨26, [(0, .v (.int .u8 f)), (2, .v (.string (⟨#[]⟩ : ByteArray))), (3, .v (.slice A_ n_ c_)), (6, .v (.agg #[.int .i32 70, .int .i32 83, .int .i32 82, .int .i32 80, .int .i32 65, .int .i32 85])), (7, .v (.int .i64 6))], []⟩ (by kernel_rfl) ?_
        -- again (T=5F)
        have hb_ := bitAt (f := f) hf0 hf1 (k := 5) (by decide)
        exact X.again (hJ2 _ _ _ _ ⟨A_, c_, n_, l_, 6, rfl, rfl, rfl, ⟨by omega, by omega, by rw [hl]; exact (tx_no (f := f) (n := 5) (by rw [← hb_]; assumption)).symm, hn, by have : n_ ≤ 5 := hni; show _ ≤ 6; omega⟩, rfl⟩ (by omega))
  · -- slot 8: decide (i < 6) is False
    replace h3 : ¬ (i < 6) := of_decide_eq_false h3
    refine X.run 14 [2, 3, 23] [] (.code (cA B43 [1, 1, 1, 0, 1])) [.seq (cA B43 [1, 1, 1, 1])] ⟨26, [(2, .v (.string (⟨#[]⟩ : ByteArray))), (3, .v (.slice A_ n_ c_)), (23, .v (.bool (((n_ : Nat) : Int) == 0)))], []⟩ (by kernel_rfl) ?_
    refine X.split 23 rfl (fun h23 => ?_) (fun h23 => ?_)
    · -- slot 23: ((n_ : Nat) : Int) == 0 is True
      replace h23 : ((n_ : Nat) : Int) = 0 := by simpa using h23
      refine X.run 8 [2] [] (.ex .ret) [] ⟨26, [(2, .v (.string (⟨#[45]⟩ : ByteArray)))], []⟩ (by kernel_rfl) ?_
      refine doneG (.inl rfl) [.string (⟨#[45]⟩ : ByteArray)] [] (by kernel_rfl) rfl rfl (Ge.refl _ _) ?_
      -- end 2 (FT)
      have hi_ : i = 6 := by omega
      subst hi_
      have hl : l_ = tx f 6 := hl
      have hl2_ : tx f 6 = [] := by rw [← hl]; exact List.eq_nil_of_length_eq_zero (by omega)
      refine ⟨?_, rfl⟩
      unfold textL; rw [if_pos hl2_]; rfl
    · -- slot 23: ((n_ : Nat) : Int) == 0 is False
      replace h23 : ((n_ : Nat) : Int) ≠ 0 := by simpa using h23
      refine X.run 6 [2, 24] [] (.ops (aA B43 [1, 1, 1, 1, 0]) (oA B43 [1, 1, 1, 1, 0] 1 :: lA B43 [1, 1, 1, 1, 0] 2)) [.seq (cA B43 [1, 1, 1, 1, 1])] ⟨26, [(2, .v (.string (⟨#[]⟩ : ByteArray))), (24, .v (.slice A_ n_ c_))], []⟩ (by kernel_rfl) ?_
      refine X.runesToStr (src := 147) (dst := 9) (e := 21) (n := n_) (c := c_) (A := A_) (x := .tmp 24) l_ (by kernel_rfl) (by kernel_rfl) (by kernel_rfl) (by kernel_rfl) (by kernel_rfl) (by omega) (At.of_row (i := 19) (r := ⟨21, 1, .slice A_ n_ c_, n_, (l_).map (Value.int .i32)⟩) rfl rfl) (rowNone (i := 19) (q := ⟨21, 1, .slice A_ n_ c_, n_, (l_).map (Value.int .i32)⟩) rfl rfl) (by kernel_rfl) ?_
      refine X.run 4 [2] [] (.ex .ret) [] ⟨26, [(2, .v (.string (runesBytes l_)))], []⟩ (by kernel_rfl) ?_
      refine doneG (.inl rfl) [.string (runesBytes l_)] [] (by kernel_rfl) rfl rfl (Ge.refl _ _) ?_
      -- end 3 (FF)
      have hi_ : i = 6 := by omega
      subst hi_
      have hl : l_ = tx f 6 := hl
      have hl2_ : tx f 6 ≠ [] := by rw [← hl]; intro h0_; rw [h0_] at hn; exact absurd hn (by simp; omega)
      refine ⟨?_, rfl⟩
      unfold textL; rw [if_neg hl2_, runesBytes_ascii l_ (by rw [hl]; exact tx_range f 6), hl]; rfl

/-- leat/leatref11.Text -/
noncomputable def B44 : Code := bodyOf Try.f44
set_option maxHeartbeats 1000000 in
theorem rText_ok (f : Int) (hf0 : 0 ≤ f) (hf1 : f ≤ 255) (G : Mem) : CallsG Try.prog 44 [.int .u8 f] G (fun _ v rows => v = .string (strOf (textL f)) ∧ rows = []) := by
  refine CallsG.enter Try.func44 rfl rfl ?_
  intro w
  refine X.run 17 [0, 2, 3, 4] [] (.code (cA B44 [1, 1, 0, 1, 0])) [.blk 0, .seq (cA B44 [1, 1, 1])] ⟨23, [(0, .v (.int .u8 f)), (2, .v (.string (⟨#[]⟩ : ByteArray))), (3, .v (.string (⟨#[]⟩ : ByteArray))), (4, .v (.int .i64 0))], []⟩ (by kernel_rfl) ?_
  refine X.loopJ (fun m s R' G' => ∃ (s_ : ByteArray) (g_ i : Int), s = ⟨23, [(0, .v (.int .u8 g_)), (2, .v (.string (⟨#[]⟩ : ByteArray))), (3, .v (.string s_)), (4, .v (.int .i64 i))], []⟩ ∧ R' = [] ∧ G = G' ∧ (0 ≤ i ∧ i ≤ 6 ∧ 0 ≤ g_ ∧ g_ ≤ 255 ∧ s_.size ≤ 6 ∧ s_ = strOf (tx f i.toNat) ∧ g_ = f / 2 ^ i.toNat) ∧ m = (6 - i).toNat) _ ⟨⟨#[]⟩, f, 0, rfl, rfl, rfl, ⟨by omega, by omega, hf0, hf1, by decide, rfl, by simp⟩, rfl⟩ ?_
  rintro m1 s1 R1 G1 ⟨s_, g_, i, rfl, rfl, rfl, hF1, rfl⟩ J1 hJ1
  obtain ⟨hi0, hi1, hg0, hg1, hsz, hs_, hg⟩ := hF1
  refine X.run 7 [0, 2, 3, 4, 6] [] (.code (cA B44 [1, 1, 0, 1, 0, 0, 0, 1])) [.seq (cA B44 [1, 1, 0, 1, 0, 0, 1]), .loop J1, .blk 0, .seq (cA B44 [1, 1, 1])] ⟨23, [(0, .v (.int .u8 g_)), (2, .v (.string (⟨#[]⟩ : ByteArray))), (3, .v (.string s_)), (4, .v (.int .i64 i)), (6, .v (.bool (decide (i < 6))))], []⟩ (by kernel_rfl) ?_
  refine X.split 6 rfl (fun h2 => ?_) (fun h2 => ?_)
  · -- slot 6: decide (i < 6) is True
    replace h2 : i < 6 := of_decide_eq_true h2
    refine X.run 10 [0, 2, 3, 4, 10] [] (.ops (aA B44 [1, 1, 0, 1, 0, 0, 1, 0, 0, 0, 0]) (oA B44 [1, 1, 0, 1, 0, 0, 1, 0, 0, 0, 0] 2 :: lA B44 [1, 1, 0, 1, 0, 0, 1, 0, 0, 0, 0] 3)) [.seq (cA B44 [1, 1, 0, 1, 0, 0, 1, 0, 0, 0, 1]), .seq (cA B44 [1, 1, 0, 1, 0, 0, 1, 0, 0, 1]), .blk 1, .seq (cA B44 [1, 1, 0, 1, 0, 0, 1, 1]), .loop J1, .blk 0, .seq (cA B44 [1, 1, 1])] ⟨23, [(0, .v (.int .u8 g_)), (2, .v (.string (⟨#[]⟩ : ByteArray))), (3, .v (.string s_)), (4, .v (.int .i64 i)), (10, .v (.int .u8 (Int.tmod g_ 2)))], []⟩ (by kernel_rfl) ?_
    refine X.known 10 (y := .v (.int .u8 (g_ % 2))) rfl (congrArg (fun z_ => AV.v (.int .u8 z_)) (Int.tmod_eq_emod_of_nonneg (by omega))) ?_
    refine X.run 3 [0, 2, 3, 4, 11] [] (.code (cA B44 [1, 1, 0, 1, 0, 0, 1, 0, 0, 0, 1])) [.seq (cA B44 [1, 1, 0, 1, 0, 0, 1, 0, 0, 1]), .blk 1, .seq (cA B44 [1, 1, 0, 1, 0, 0, 1, 1]), .loop J1, .blk 0, .seq (cA B44 [1, 1, 1])] ⟨23, [(0, .v (.int .u8 g_)), (2, .v (.string (⟨#[]⟩ : ByteArray))), (3, .v (.string s_)), (4, .v (.int .i64 i)), (11, .v (.bool ((g_ % 2) == 1)))], []⟩ (by kernel_rfl) ?_
    refine X.split 11 rfl (fun h3 => ?_) (fun h3 => ?_)
    · -- slot 11: (g_ % 2) == 1 is True
      replace h3 : (g_ % 2) = 1 := by simpa using h3
      refine X.run 6 [0, 2, 3, 4, 12, 13, 15] [] (.ops (aA B44 [1, 1, 0, 1, 0, 0, 1, 0, 0, 0, 1, 0]) (oA B44 [1, 1, 0, 1, 0, 0, 1, 0, 0, 0, 1, 0] 4 :: lA B44 [1, 1, 0, 1, 0, 0, 1, 0, 0, 0, 1, 0] 5)) [.seq (cA B44 [1, 1, 0, 1, 0, 0, 1, 0, 0, 1]), .blk 1, .seq (cA B44 [1, 1, 0, 1, 0, 0, 1, 1]), .loop J1, .blk 0, .seq (cA B44 [1, 1, 1])] ⟨23, [(0, .v (.int .u8 g_)), (2, .v (.string (⟨#[]⟩ : ByteArray))), (3, .v (.string s_)), (4, .v (.int .i64 i)), (12, .v (.string s_)), (13, .v (.int .i64 i)), (15, .v (.int .i64 (IntKind.i64.wrap (i + 1))))], []⟩ (by kernel_rfl) ?_
      refine X.known 15 (y := .v (.int .i64 (i + 1))) rfl (congrArg (fun z_ => AV.v (.int .i64 z_)) (wi64 (by omega) (by omega))) ?_
      have hcs4 : i = 0 ∨ i = 1 ∨ i = 2 ∨ i = 3 ∨ i = 4 ∨ i = 5 := by omega
      rcases hcs4 with rfl | rfl | rfl | rfl | rfl | rfl
      · -- i is 0
        refine X.cutStr (t := 9) (b := (⟨#[70, 83, 82, 80, 65, 85]⟩ : ByteArray)) (x := .const (.string (⟨#[70, 83, 82, 80, 65, 85]⟩ : ByteArray))) (l := (some (.tmp 13))) (h := (some (.tmp 15))) (lv := (some (.int .i64 0))) (hv := (some (.int .i64 ((0 : Int) + 1)))) 0 (((0 : Int) + 1).toNat) (by kernel_rfl) (by kernel_rfl) (by kernel_rfl) (by kernel_rfl) (by kernel_rfl) (by kernel_rfl) (⟨_, _, rfl, by omega, rfl⟩) (⟨_, _, rfl, by omega, rfl⟩) (by first | (omega) | decide) (by first | (omega) | decide) ?_
        refine X.run 0 [0, 2, 3, 4, 12, 16] [] (.ops (aA B44 [1, 1, 0, 1, 0, 0, 1, 0, 0, 0, 1, 0]) (oA B44 [1, 1, 0, 1, 0, 0, 1, 0, 0, 0, 1, 0] 5 :: lA B44 [1, 1, 0, 1, 0, 0, 1, 0, 0, 0, 1, 0] 6)) [.seq (cA B44 [1, 1, 0, 1, 0, 0, 1, 0, 0, 1]), .blk 1, .seq (cA B44 [1, 1, 0, 1, 0, 0, 1, 1]), .loop J1, .blk 0, .seq (cA B44 [1, 1, 1])] ⟨23, [(0, .v (.int .u8 g_)), (2, .v (.string (⟨#[]⟩ : ByteArray))), (3, .v (.string s_)), (4, .v (.int .i64 0)), (12, .v (.string s_)), (16, .v (.string ((⟨#[70, 83, 82, 80, 65, 85]⟩ : ByteArray).extract 0 (((0 : Int) + 1).toNat))))], []⟩ (by kernel_rfl) ?_
        refine X.strAdd (t := 9) (t' := 9) (x := .tmp 12) (y := .tmp 16) (a := s_) (b := (⟨#[70, 83, 82, 80, 65, 85]⟩ : ByteArray).extract 0 (((0 : Int) + 1).toNat)) (by kernel_rfl) (by kernel_rfl) (by kernel_rfl) (by kernel_rfl) (by exact ext_size hsz (by decide)) ?_
        refine X.run 6 [0, 2, 3, 4, 19] [] (.ops (aA B44 [1, 1, 0, 1, 0, 0, 1, 0, 0, 1]) (oA B44 [1, 1, 0, 1, 0, 0, 1, 0, 0, 1] 2 :: lA B44 [1, 1, 0, 1, 0, 0, 1, 0, 0, 1] 3)) [.blk 1, .seq (cA B44 [1, 1, 0, 1, 0, 0, 1, 1]), .loop J1, .blk 0, .seq (cA B44 [1, 1, 1])] ⟨23, [(0, .v (.int .u8 g_)), (2, .v (.string (⟨#[]⟩ : ByteArray))), (3, .v (.string (s_ ++ ((⟨#[70, 83, 82, 80, 65, 85]⟩ : ByteArray).extract 0 (((0 : Int) + 1).toNat))))), (4, .v (.int .i64 0)), (19, .v (.int .u8 (IntKind.u8.wrap (Int.tdiv g_ 2))))], []⟩ (by kernel_rfl) ?_
        refine X.known 19 (y := .v (.int .u8 (g_ / 2))) rfl (congrArg (fun z_ => AV.v (.int .u8 z_)) (wdiv_u8 (by omega) (by omega) (by omega))) ?_
        refine X.run 9 [0, 2, 3, 4] [] (.ex .normal) [.loop J1, .blk 0, .seq (cA B44 [1, 1, 1])] ⟨23, [(0, .v (.int .u8 (g_ / 2))), (2, .v (.string (⟨#[]⟩ : ByteArray))), (3, .v (.string (s_ ++ ((⟨#[70, 83, 82, 80, 65, 85]⟩ : ByteArray).extract 0 (((0 : Int) + 1).toNat))))), (4, .v (.int .i64 1))], []⟩ (by kernel_rfl) ?_
        -- again (TT=0)
        have hst_ : s_ ++ ((⟨#[70, 83, 82, 80, 65, 85]⟩ : ByteArray).extract 0 (((0 : Int) + 1).toNat)) = strOf (tx f 1) := by
          rw [hs_]
          show strOf (tx f 0) ++ _ = strOf (tx f 1)
          rw [tx_yes (f := f) (n := 0) (by have hm_ : g_ % 2 = 1 := (by assumption); rw [hg] at hm_; exact hm_), strOf_snoc]
          rfl
        exact X.again (hJ1 _ _ _ _ ⟨s_ ++ ((⟨#[70, 83, 82, 80, 65, 85]⟩ : ByteArray).extract 0 (((0 : Int) + 1).toNat)), g_ / 2, 1, rfl, rfl, rfl, ⟨by omega, by omega, by omega, by omega, by rw [hst_]; exact tx_size f (by decide), hst_, halve2 (n := 0) hg⟩, rfl⟩ (by omega))
      · -- i is 1
        refine X.cutStr (t := 9) (b := (⟨#[70, 83, 82, 80, 65, 85]⟩ : ByteArray)) (x := .const (.string (⟨#[70, 83, 82, 80, 65, 85]⟩ : ByteArray))) (l := (some (.tmp 13))) (h := (some (.tmp 15))) (lv := (some (.int .i64 1))) (hv := (some (.int .i64 ((1 : Int) + 1)))) 1 (((1 : Int) + 1).toNat) (by kernel_rfl) (by kernel_rfl) (by kernel_rfl) (by kernel_rfl) (by kernel_rfl) (by kernel_rfl) (⟨_, _, rfl, by omega, rfl⟩) (⟨_, _, rfl, by omega, rfl⟩) (by first | (omega) | decide) (by first | (omega) | decide) ?_
        refine X.run 0 [0, 2, 3, 4, 12, 16] [] (.ops (aA B44 [1, 1, 0, 1, 0, 0, 1, 0, 0, 0, 1, 0]) (oA B44 [1, 1, 0, 1, 0, 0, 1, 0, 0, 0, 1, 0] 5 :: lA B44 [1, 1, 0, 1, 0, 0, 1, 0, 0, 0, 1, 0] 6)) [.seq (cA B44 [1, 1, 0, 1, 0, 0, 1, 0, 0, 1]), .blk 1, .seq (cA B44 [1, 1, 0, 1, 0, 0, 1, 1]), .loop J1, .blk 0, .seq (cA B44 [1, 1, 1])] ⟨23, [(0, .v (.int .u8 g_)), (2, .v (.string (⟨#[]⟩ : ByteArray))), (3, .v (.string s_)), (4, .v (.int .i64 1)), (12, .v (.string s_)), (16, .v (.string ((⟨#[70, 83, 82, 80, 65, 85]⟩ : ByteArray).extract 1 (((1 : Int) + 1).toNat))))], []⟩ (by kernel_rfl) ?_
        refine X.strAdd (t := 9) (t' := 9) (x := .tmp 12) (y := .tmp 16) (a := s_) (b := (⟨#[70, 83, 82, 80, 65, 85]⟩ : ByteArray).extract 1 (((1 : Int) + 1).toNat)) (by kernel_rfl) (by kernel_rfl) (by kernel_rfl) (by kernel_rfl) (by exact ext_size hsz (by decide)) ?_
        refine X.run 6 [0, 2, 3, 4, 19] [] (.ops (aA B44 [1, 1, 0, 1, 0, 0, 1, 0, 0, 1]) (oA B44 [1, 1, 0, 1, 0, 0, 1, 0, 0, 1] 2 :: lA B44 [1, 1, 0, 1, 0, 0, 1, 0, 0, 1] 3)) [.blk 1, .seq (cA B44 [1, 1, 0, 1, 0, 0, 1, 1]), .loop J1, .blk 0, .seq (cA B44 [1, 1, 1])] ⟨23, [(0, .v (.int .u8 g_)), (2, .v (.string (⟨#[]⟩ : ByteArray))), (3, .v (.string (s_ ++ ((⟨#[70, 83, 82, 80, 65, 85]⟩ : ByteArray).extract 1 (((1 : Int) + 1).toNat))))), (4, .v (.int .i64 1)), (19, .v (.int .u8 (IntKind.u8.wrap (Int.tdiv g_ 2))))], []⟩ (by kernel_rfl) ?_
        refine X.known 19 (y := .v (.int .u8 (g_ / 2))) rfl (congrArg (fun z_ => AV.v (.int .u8 z_)) (wdiv_u8 (by omega) (by omega) (by omega))) ?_
        refine X.run 9 [0, 2, 3, 4] [] (.ex .normal) [.loop J1, .blk 0, .seq (cA B44 [1, 1, 1])] ⟨23, [(0, .v (.int .u8 (g_ / 2))), (2, .v (.string (⟨#[]⟩ : ByteArray))), (3, .v (.string (s_ ++ ((⟨#[70, 83, 82, 80, 65, 85]⟩ : ByteArray).extract 1 (((1 : Int) + 1).toNat))))), (4, .v (.int .i64 2))], []⟩ (by kernel_rfl) ?_
        -- again (TT=1)
        have hst_ : s_ ++ ((⟨#[70, 83, 82, 80, 65, 85]⟩ : ByteArray).extract 1 (((1 : Int) + 1).toNat)) = strOf (tx f 2) := by
          rw [hs_]
          show strOf (tx f 1) ++ _ = strOf (tx f 2)
          rw [tx_yes (f := f) (n := 1) (by have hm_ : g_ % 2 = 1 := (by assumption); rw [hg] at hm_; exact hm_), strOf_snoc]
          rfl
        exact X.again (hJ1 _ _ _ _ ⟨s_ ++ ((⟨#[70, 83, 82, 80, 65, 85]⟩ : ByteArray).extract 1 (((1 : Int) + 1).toNat)), g_ / 2, 2, rfl, rfl, rfl, ⟨by omega, by omega, by omega, by omega, by rw [hst_]; exact tx_size f (by decide), hst_, halve2 (n := 1) hg⟩, rfl⟩ (by omega))
      · -- i is 2
        refine X.cutStr (t := 9) (b := (⟨#[70, 83, 82, 80, 65, 85]⟩ : ByteArray)) (x := .const (.string (⟨#[70, 83, 82, 80, 65, 85]⟩ : ByteArray))) (l := (some (.tmp 13))) (h := (some (.tmp 15))) (lv := (some (.int .i64 2))) (hv := (some (.int .i64 ((2 : Int) + 1)))) 2 (((2 : Int) + 1).toNat) (by kernel_rfl) (by kernel_rfl) (by kernel_rfl) (by kernel_rfl) (by kernel_rfl) (by kernel_rfl) (⟨_, _, rfl, by omega, rfl⟩) (⟨_, _, rfl, by omega, rfl⟩) (by first | (omega) | decide) (by first | (omega) | decide) ?_
        refine X.run 0 [0, 2, 3, 4, 12, 16] [] (.ops (aA B44 [1, 1, 0, 1, 0, 0, 1, 0, 0, 0, 1, 0]) (oA B44 [1, 1, 0, 1, 0, 0, 1, 0, 0, 0, 1, 0] 5 :: lA B44 [1, 1, 0, 1, 0, 0, 1, 0, 0, 0, 1, 0] 6)) [.seq (cA B44 [1, 1, 0, 1, 0, 0, 1, 0, 0, 1]), .blk 1, .seq (cA B44 [1, 1, 0, 1, 0, 0, 1, 1]), .loop J1, .blk 0, .seq (cA B44 [1, 1, 1])] ⟨23, [(0, .v (.int .u8 g_)), (2, .v (.string (⟨#[]⟩ : ByteArray))), (3, .v (.string s_)), (4, .v (.int .i64 2)), (12, .v (.string s_)), (16, .v (.string ((⟨#[70, 83, 82, 80, 65, 85]⟩ : ByteArray).extract 2 (((2 : Int) + 1).toNat))))], []⟩ (by kernel_rfl) ?_
        refine X.strAdd (t := 9) (t' := 9) (x := .tmp 12) (y := .tmp 16) (a := s_) (b := (⟨#[70, 83, 82, 80, 65, 85]⟩ : ByteArray).extract 2 (((2 : Int) + 1).toNat)) (by kernel_rfl) (by kernel_rfl) (by kernel_rfl) (by kernel_rfl) (by exact ext_size hsz (by decide)) ?_
        refine X.run 6 [0, 2, 3, 4, 19] [] (.ops (aA B44 [1, 1, 0, 1, 0, 0, 1, 0, 0, 1]) (oA B44 [1, 1, 0, 1, 0, 0, 1, 0, 0, 1] 2 :: lA B44 [1, 1, 0, 1, 0, 0, 1, 0, 0, 1] 3)) [.blk 1, .seq (cA B44 [1, 1, 0, 1, 0, 0, 1, 1]), .loop J1, .blk 0, .seq (cA B44 [1, 1, 1])] ⟨23, [(0, .v (.int .u8 g_)), (2, .v (.string (⟨#[]⟩ : ByteArray))), (3, .v (.string (s_ ++ ((⟨#[70, 83, 82, 80, 65, 85]⟩ : ByteArray).extract 2 (((2 : Int) + 1).toNat))))), (4, .v (.int .i64 2)), (19, .v (.int .u8 (IntKind.u8.wrap (Int.tdiv g_ 2))))], []⟩ (by kernel_rfl) ?_
        refine X.known 19 (y := .v (.int .u8 (g_ / 2))) rfl (congrArg (fun z_ => AV.v (.int .u8 z_)) (wdiv_u8 (by omega) (by omega) (by omega))) ?_
        refine X.run 9 [0, 2, 3, 4] [] (.ex .normal) [.loop J1, .blk 0, .seq (cA B44 [1, 1, 1])] ⟨23, [(0, .v (.int .u8 (g_ / 2))), (2, .v (.string (⟨#[]⟩ : ByteArray))), (3, .v (.string (s_ ++ ((⟨#[70, 83, 82, 80, 65, 85]⟩ : ByteArray).extract 2 (((2 : Int) + 1).toNat))))), (4, .v (.int .i64 3))], []⟩ (by kernel_rfl) ?_
        -- again (TT=2)
        have hst_ : s_ ++ ((⟨#[70, 83, 82, 80, 65, 85]⟩ : ByteArray).extract 2 (((2 : Int) + 1).toNat)) = strOf (tx f 3) := by
          rw [hs_]
          show strOf (tx f 2) ++ _ = strOf (tx f 3)
          rw [tx_yes (f := f) (n := 2) (by have hm_ : g_ % 2 = 1 := (by assumption); rw [hg] at hm_; exact hm_), strOf_snoc]
          rfl
        exact X.again (hJ1 _ _ _ _ ⟨s_ ++ ((⟨#[70, 83, 82, 80, 65, 85]⟩ : ByteArray).extract 2 (((2 : Int) + 1).toNat)), g_ / 2, 3, rfl, rfl, rfl, ⟨by omega, by omega, by omega, by omega, by rw [hst_]; exact tx_size f (by decide), hst_, halve2 (n := 2) hg⟩, rfl⟩ (by omega))
      · -- i is 3
        refine X.cutStr (t := 9) (b := (⟨#[70, 83, 82, 80, 65, 85]⟩ : ByteArray)) (x := .const (.string (⟨#[70, 83, 82, 80, 65, 85]⟩ : ByteArray))) (l := (some (.tmp 13))) (h := (some (.tmp 15))) (lv := (some (.int .i64 3))) (hv := (some (.int .i64 ((3 : Int) + 1)))) 3 (((3 : Int) + 1).toNat) (by kernel_rfl) (by kernel_rfl) (by kernel_rfl) (by kernel_rfl) (by kernel_rfl) (by kernel_rfl) (⟨_, _, rfl, by omega, rfl⟩) (⟨_, _, rfl, by omega, rfl⟩) (by first | (omega) | decide) (by first | (omega) | decide) ?_
        refine X.run 0 [0, 2, 3, 4, 12, 16] [] (.ops (aA B44 [1, 1, 0, 1, 0, 0, 1, 0, 0, 0, 1, 0]) (oA B44 [1, 1, 0, 1, 0, 0, 1, 0, 0, 0, 1, 0] 5 :: lA B44 [1, 1, 0, 1, 0, 0, 1, 0, 0, 0, 1, 0] 6)) [.seq (cA B44 [1, 1, 0, 1, 0, 0, 1, 0, 0, 1]), .blk 1, .seq (cA B44 [1, 1, 0, 1, 0, 0, 1, 1]), .loop J1, .blk 0, .seq (cA B44 [1, 1, 1])] ⟨23, [(0, .v (.int .u8 g_)), (2, .v (.string (⟨#[]⟩ : ByteArray))), (3, .v (.string s_)), (4, .v (.int .i64 3)), (12, .v (.string s_)), (16, .v (.string ((⟨#[70, 83, 82, 80, 65, 85]⟩ : ByteArray).extract 3 (((3 : Int) + 1).toNat))))], []⟩ (by kernel_rfl) ?_
        refine X.strAdd (t := 9) (t' := 9) (x := .tmp 12) (y := .tmp 16) (a := s_) (b := (⟨#[70, 83, 82, 80, 65, 85]⟩ : ByteArray).extract 3 (((3 : Int) + 1).toNat)) (by kernel_rfl) (by kernel_rfl) (by kernel_rfl) (by kernel_rfl) (by exact ext_size hsz (by decide)) ?_
        refine X.run 6 [0, 2, 3, 4, 19] [] (.ops (aA B44 [1, 1, 0, 1, 0, 0, 1, 0, 0, 1]) (oA B44 [1, 1, 0, 1, 0, 0, 1, 0, 0, 1] 2 :: lA B44 [1, 1, 0, 1, 0, 0, 1, 0, 0, 1] 3)) [.blk 1, .seq (cA B44 [1, 1, 0, 1, 0, 0, 1, 1]), .loop J1, .blk 0, .seq (cA B44 [1, 1, 1])] ⟨23, [(0, .v (.int .u8 g_)), (2, .v (.string (⟨#[]⟩ : ByteArray))), (3, .v (.string (s_ ++ ((⟨#[70, 83, 82, 80, 65, 85]⟩ : ByteArray).extract 3 (((3 : Int) + 1).toNat))))), (4, .v (.int .i64 3)), (19, .v (.int .u8 (IntKind.u8.wrap (Int.tdiv g_ 2))))], []⟩ (by kernel_rfl) ?_
        refine X.known 19 (y := .v (.int .u8 (g_ / 2))) rfl (congrArg (fun z_ => AV.v (.int .u8 z_)) (wdiv_u8 (by omega) (by omega) (by omega))) ?_
        refine X.run 9 [0, 2, 3, 4] [] (.ex .normal) [.loop J1, .blk 0, .seq (cA B44 [1, 1, 1])] ⟨23, [(0, .v (.int .u8 (g_ / 2))), (2, .v (.string (⟨#[]⟩ : ByteArray))), (3, .v (.string (s_ ++ ((⟨#[70, 83, 82, 80, 65, 85]⟩ : ByteArray).extract 3 (((3 : Int) + 1).toNat))))), (4, .v (.int .i64 4))], []⟩ (by kernel_rfl) ?_
        -- again (TT=3)
        have hst_ : s_ ++ ((⟨#[70, 83, 82, 80, 65, 85]⟩ : ByteArray).extract 3 (((3 : Int) + 1).toNat)) = strOf (tx f 4) := by
          rw [hs_]
          show strOf (tx f 3) ++ _ = strOf (tx f 4)
          rw [tx_yes (f := f) (n := 3) (by have hm_ : g_ % 2 = 1 := (by assumption); rw [hg] at hm_; exact hm_), strOf_snoc]
          rfl
        exact X.again (hJ1 _ _ _ _ ⟨s_ ++ ((⟨#[70, 83, 82, 80, 65, 85]⟩ : ByteArray).extract 3 (((3 : Int) + 1).toNat)), g_ / 2, 4, rfl, rfl, rfl, ⟨by omega, by omega, by omega, by omega, by rw [hst_]; exact tx_size f (by decide), hst_, halve2 (n := 3) hg⟩, rfl⟩ (by omega))
      · -- i is 4
        refine X.cutStr (t := 9) (b := (⟨#[70, 83, 82, 80, 65, 85]⟩ : ByteArray)) (x := .const (.string (⟨#[70, 83, 82, 80, 65, 85]⟩ : ByteArray))) (l := (some (.tmp 13))) (h := (some (.tmp 15))) (lv := (some (.int .i64 4))) (hv := (some (.int .i64 ((4 : Int) + 1)))) 4 (((4 : Int) + 1).toNat) (by kernel_rfl) (by kernel_rfl) (by kernel_rfl) (by kernel_rfl) (by kernel_rfl) (by kernel_rfl) (⟨_, _, rfl, by omega, rfl⟩) (⟨_, _, rfl, by omega, rfl⟩) (by first | (omega) | decide) (by first | (omega) | decide) ?_
        refine X.run 0 [0, 2, 3, 4, 12, 16] [] (.ops (aA B44 [1, 1, 0, 1, 0, 0, 1, 0, 0, 0, 1, 0]) (oA B44 [1, 1, 0, 1, 0, 0, 1, 0, 0, 0, 1, 0] 5 :: lA B44 [1, 1, 0, 1, 0, 0, 1, 0, 0, 0, 1, 0] 6)) [.seq (cA B44 [1, 1, 0, 1, 0, 0, 1, 0, 0, 1]), .blk 1, .seq (cA B44 [1, 1, 0, 1, 0, 0, 1, 1]), .loop J1, .blk 0, .seq (cA B44 [1, 1, 1])] ⟨23, [(0, .v (.int .u8 g_)), (2, .v (.string (⟨#[]⟩ : ByteArray))), (3, .v (.string s_)), (4, .v (.int .i64 4)), (12, .v (.string s_)), (16, .v (.string ((⟨#[70, 83, 82, 80, 65, 85]⟩ : ByteArray).extract 4 (((4 : Int) + 1).toNat))))], []⟩ (by kernel_rfl) ?_
        refine X.strAdd (t := 9) (t' := 9) (x := .tmp 12) (y := .tmp 16) (a := s_) (b := (⟨#[70, 83, 82, 80, 65, 85]⟩ : ByteArray).extract 4 (((4 : Int) + 1).toNat)) (by kernel_rfl) (by kernel_rfl) (by kernel_rfl) (by kernel_rfl) (by exact ext_size hsz (by decide)) ?_
        refine X.run 6 [0, 2, 3, 4, 19] [] (.ops (aA B44 [1, 1, 0, 1, 0, 0, 1, 0, 0, 1]) (oA B44 [1, 1, 0, 1, 0, 0, 1, 0, 0, 1] 2 :: lA B44 [1, 1, 0, 1, 0, 0, 1, 0, 0, 1] 3)) [.blk 1, .seq (cA B44 [1, 1, 0, 1, 0, 0, 1, 1]), .loop J1, .blk 0, .seq (cA B44 [1, 1, 1])] ⟨23, [(0, .v (.int .u8 g_)), (2, .v (.string (⟨#[]⟩ : ByteArray))), (3, .v (.string (s_ ++ ((⟨#[70, 83, 82, 80, 65, 85]⟩ : ByteArray).extract 4 (((4 : Int) + 1).toNat))))), (4, .v (.int .i64 4)), (19, .v (.int .u8 (IntKind.u8.wrap (Int.tdiv g_ 2))))], []⟩ (by kernel_rfl) ?_
        refine X.known 19 (y := .v (.int .u8 (g_ / 2))) rfl (congrArg (fun z_ => AV.v (.int .u8 z_)) (wdiv_u8 (by omega) (by omega) (by omega))) ?_
        refine X.run 9 [0, 2, 3, 4] [] (.ex .normal) [.loop J1, .blk 0, .seq (cA B44 [1, 1, 1])] ⟨23, [(0, .v (.int .u8 (g_ / 2))), (2, .v (.string (⟨#[]⟩ : ByteArray))), (3, .v (.string (s_ ++ ((⟨#[70, 83, 82, 80, 65, 85]⟩ : ByteArray).extract 4 (((4 : Int) + 1).toNat))))), (4, .v (.int .i64 5))], []⟩ (by kernel_rfl) ?_
        -- again (TT=4)
        have hst_ : s_ ++ ((⟨#[70, 83, 82, 80, 65, 85]⟩ : ByteArray).extract 4 (((4 : Int) + 1).toNat)) = strOf (tx f 5) := by
          rw [hs_]
          show strOf (tx f 4) ++ _ = strOf (tx f 5)
          rw [tx_yes (f := f) (n := 4) (by have hm_ : g_ % 2 = 1 := (by assumption); rw [hg] at hm_; exact hm_), strOf_snoc]
          rfl
        exact X.again (hJ1 _ _ _ _ ⟨s_ ++ ((⟨#[70, 83, 82, 80, 65, 85]⟩ : ByteArray).extract 4 (((4 : Int) + 1).toNat)), g_ / 2, 5, rfl, rfl, rfl, ⟨by omega, by omega, by omega, by omega, by rw [hst_]; exact tx_size f (by decide), hst_, halve2 (n := 4) hg⟩, rfl⟩ (by omega))
      · -- i is 5
        refine X.cutStr (t := 9) (b := (⟨#[70, 83, 82, 80, 65, 85]⟩ : ByteArray)) (x := .const (.string (⟨#[70, 83, 82, 80, 65, 85]⟩ : ByteArray))) (l := (some (.tmp 13))) (h := (some (.tmp 15))) (lv := (some (.int .i64 5))) (hv := (some (.int .i64 ((5 : Int) + 1)))) 5 (((5 : Int) + 1).toNat) (by kernel_rfl) (by kernel_rfl) (by kernel_rfl) (by kernel_rfl) (by kernel_rfl) (by kernel_rfl) (⟨_, _, rfl, by omega, rfl⟩) (⟨_, _, rfl, by omega, rfl⟩) (by first | (omega) | decide) (by first | (omega) | decide) ?_
        refine X.run 0 [0, 2, 3, 4, 12, 16] [] (.ops (aA B44 [1, 1, 0, 1, 0, 0, 1, 0, 0, 0, 1, 0]) (oA B44 [1, 1, 0, 1, 0, 0, 1, 0, 0, 0, 1, 0] 5 :: lA B44 [1, 1, 0, 1, 0, 0, 1, 0, 0, 0, 1, 0] 6)) [.seq (cA B44 [1, 1, 0, 1, 0, 0, 1, 0, 0, 1]), .blk 1, .seq (cA B44 [1, 1, 0, 1, 0, 0, 1, 1]), .loop J1, .blk 0, .seq (cA B44 [1, 1, 1])] ⟨23, [(0, .v (.int .u8 g_)), (2, .v (.string (⟨#[]⟩ : ByteArray))), (3, .v (.string s_)), (4, .v (.int .i64 5)), (12, .v (.string s_)), (16, .v (.string ((⟨#[70, 83, 82, 80, 65, 85]⟩ : ByteArray).extract 5 (((5 : Int) + 1).toNat))))], []⟩ (by kernel_rfl) ?_
        refine X.strAdd (t := 9) (t' := 9) (x := .tmp 12) (y := .tmp 16) (a := s_) (b := (⟨#[70, 83, 82, 80, 65, 85]⟩ : ByteArray).extract 5 (((5 : Int) + 1).toNat)) (by kernel_rfl) (by kernel_rfl) (by kernel_rfl) (by kernel_rfl) (by exact ext_size hsz (by decide)) ?_
        refine X.run 6 [0, 2, 3, 4, 19] [] (.ops (aA B44 [1, 1, 0, 1, 0, 0, 1, 0, 0, 1]) (oA B44 [1, 1, 0, 1, 0, 0, 1, 0, 0, 1] 2 :: lA B44 [1, 1, 0, 1, 0, 0, 1, 0, 0, 1] 3)) [.blk 1, .seq (cA B44 [1, 1, 0, 1, 0, 0, 1, 1]), .loop J1, .blk 0, .seq (cA B44 [1, 1, 1])] ⟨23, [(0, .v (.int .u8 g_)), (2, .v (.string (⟨#[]⟩ : ByteArray))), (3, .v (.string (s_ ++ ((⟨#[70, 83, 82, 80, 65, 85]⟩ : ByteArray).extract 5 (((5 : Int) + 1).toNat))))), (4, .v (.int .i64 5)), (19, .v (.int .u8 (IntKind.u8.wrap (Int.tdiv g_ 2))))], []⟩ (by kernel_rfl) ?_
        refine X.known 19 (y := .v (.int .u8 (g_ / 2))) rfl (congrArg (fun z_ => AV.v (.int .u8 z_)) (wdiv_u8 (by omega) (by omega) (by omega))) ?_
        refine X.run 9 [0, 2, 3, 4] [] (.ex .normal) [.loop J1, .blk 0, .seq (cA B44 [1, 1, 1])] ⟨23, [(0, .v (.int .u8 (g_ / 2))), (2, .v (.string (⟨#[]⟩ : ByteArray))), (3, .v (.string (s_ ++ ((⟨#[70, 83, 82, 80, 65, 85]⟩ : ByteArray).extract 5 (((5 : Int) + 1).toNat))))), (4, .v (.int .i64 6))], []⟩ (by kernel_rfl) ?_
        -- again (TT=5)
        have hst_ : s_ ++ ((⟨#[70, 83, 82, 80, 65, 85]⟩ : ByteArray).extract 5 (((5 : Int) + 1).toNat)) = strOf (tx f 6) := by
          rw [hs_]
          show strOf (tx f 5) ++ _ = strOf (tx f 6)
          rw [tx_yes (f := f) (n := 5) (by have hm_ : g_ % 2 = 1 := (by assumption); rw [hg] at hm_; exact hm_), strOf_snoc]
          rfl
        exact X.again (hJ1 _ _ _ _ ⟨s_ ++ ((⟨#[70, 83, 82, 80, 65, 85]⟩ : ByteArray).extract 5 (((5 : Int) + 1).toNat)), g_ / 2, 6, rfl, rfl, rfl, ⟨by omega, by omega, by omega, by omega, by rw [hst_]; exact tx_size f (by decide), hst_, halve2 (n := 5) hg⟩, rfl⟩ (by omega))
    · -- slot 11: (g_ % 2) == 1 is False
      replace h3 : (g_ % 2) ≠ 1 := by simpa using h3
      refine X.run 6 [0, 2, 3, 4, 19] [] (.ops (aA B44 [1, 1, 0, 1, 0, 0, 1, 0, 0, 1]) (oA B44 [1, 1, 0, 1, 0, 0, 1, 0, 0, 1] 2 :: lA B44 [1, 1, 0, 1, 0, 0, 1, 0, 0, 1] 3)) [.blk 1, .seq (cA B44 [1, 1, 0, 1, 0, 0, 1, 1]), .loop J1, .blk 0, .seq (cA B44 [1, 1, 1])] ⟨23, [(0, .v (.int .u8 g_)), (2, .v (.string (⟨#[]⟩ : ByteArray))), (3, .v (.string s_)), (4, .v (.int .i64 i)), (19, .v (.int .u8 (IntKind.u8.wrap (Int.tdiv g_ 2))))], []⟩ (by kernel_rfl) ?_
      refine X.known 19 (y := .v (.int .u8 (g_ / 2))) rfl (congrArg (fun z_ => AV.v (.int .u8 z_)) (wdiv_u8 (by omega) (by omega) (by omega))) ?_
      refine X.run 7 [0, 2, 3, 4, 8] [] (.ops (aA B44 [1, 1, 0, 1, 0, 0, 1, 1]) (oA B44 [1, 1, 0, 1, 0, 0, 1, 1] 2 :: lA B44 [1, 1, 0, 1, 0, 0, 1, 1] 3)) [.loop J1, .blk 0, .seq (cA B44 [1, 1, 1])] ⟨23, [(0, .v (.int .u8 (g_ / 2))), (2, .v (.string (⟨#[]⟩ : ByteArray))), (3, .v (.string s_)), (4, .v (.int .i64 i)), (8, .v (.int .i64 (IntKind.i64.wrap (i + 1))))], []⟩ (by kernel_rfl) ?_
      refine X.known 8 (y := .v (.int .i64 (i + 1))) rfl (congrArg (fun z_ => AV.v (.int .i64 z_)) (wi64 (by omega) (by omega))) ?_
      refine X.run 2 [0, 2, 3, 4] [] (.ex .normal) [.loop J1, .blk 0, .seq (cA B44 [1, 1, 1])] ⟨23, [(0, .v (.int .u8 (g_ / 2))), (2, .v (.string (⟨#[]⟩ : ByteArray))), (3, .v (.string s_)), (4, .v (.int .i64 (i + 1)))], []⟩ (by kernel_rfl) ?_
      -- again (TF)
      have e3 : (i + 1).toNat = i.toNat + 1 := by omega
      have hm_ : g_ % 2 ≠ 1 := by assumption
      exact X.again (hJ1 _ _ _ _ ⟨s_, g_ / 2, i + 1, rfl, rfl, rfl, ⟨by omega, by omega, by omega, by omega, hsz, by rw [e3, tx_no (by rw [← hg]; exact hm_)]; exact hs_, by rw [e3]; exact halve2 hg⟩, rfl⟩ (by omega))
  · -- slot 6: decide (i < 6) is False
    replace h2 : ¬ (i < 6) := of_decide_eq_false h2
    refine X.run 13 [2, 3, 21] [] (.code (cA B44 [1, 1, 1, 0, 1])) [.seq (cA B44 [1, 1, 1, 1])] ⟨23, [(2, .v (.string (⟨#[]⟩ : ByteArray))), (3, .v (.string s_)), (21, .v (.bool (s_.toList == (⟨#[]⟩ : ByteArray).toList)))], []⟩ (by kernel_rfl) ?_
    refine X.split 21 rfl (fun h5 => ?_) (fun h5 => ?_)
    · -- slot 21: (s_.toList == (⟨#[]⟩ : ByteArray).toList) is True
      replace h5 : s_ = (⟨#[]⟩ : ByteArray) := strT h5
      refine X.run 8 [2] [] (.ex .ret) [] ⟨23, [(2, .v (.string (⟨#[45]⟩ : ByteArray)))], []⟩ (by kernel_rfl) ?_
      refine doneG (.inl rfl) [.string (⟨#[45]⟩ : ByteArray)] [] (by kernel_rfl) rfl rfl (Ge.refl _ _) ?_
      -- end 1 (FT)
      have hi_ : i = 6 := by omega
      subst hi_
      have hl : s_ = strOf (tx f 6) := hs_
      refine ⟨?_, rfl⟩
      unfold textL; rw [if_pos (strOf_nil (by rw [← hl]; assumption))]; rfl
    · -- slot 21: (s_.toList == (⟨#[]⟩ : ByteArray).toList) is False
      replace h5 : s_ ≠ (⟨#[]⟩ : ByteArray) := strF h5
      refine X.run 10 [2] [] (.ex .ret) [] ⟨23, [(2, .v (.string s_))], []⟩ (by kernel_rfl) ?_
      refine doneG (.inl rfl) [.string s_] [] (by kernel_rfl) rfl rfl (Ge.refl _ _) ?_
      -- end 2 (FF)
      have hi_ : i = 6 := by omega
      subst hi_
      have hl : s_ = strOf (tx f 6) := hs_
      refine ⟨?_, rfl⟩
      unfold textL; rw [if_neg (fun h0_ => absurd (show s_ = ⟨#[]⟩ by rw [hl, h0_]; rfl) (by assumption)), hl]; rfl
end Go.Proofs.YtjgpdbkkpomhjaaX
