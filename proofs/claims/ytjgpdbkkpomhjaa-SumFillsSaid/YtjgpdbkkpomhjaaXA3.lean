/- leatref10.Fill -/
import Derived.Test.YtjgpdbkkpomhjaaProg
import Derived.KernelRfl
import Derived.Test.YtjgpdbkkpomhjaaXL2
namespace Go.Proofs.YtjgpdbkkpomhjaaX
open Go.RowKit
set_option linter.unusedVariables false
set_option linter.unusedSimpArgs false
set_option maxRecDepth 100000
theorem set_two {b : List Int} {i : Nat} (x y : Int) (h : i + 2 ≤ b.length) : (b.take i).drop 0 ++ [x, y] ++ (b.take b.length).drop (i + 2) = (b.set i x).set (i + 1) y := by
  rw [List.drop_zero, List.take_length]
  have e1 : b.set i x = b.take i ++ x :: b.drop (i + 1) := List.set_eq_take_append_cons_drop .. |>.trans (if_pos (by omega))
  have e2 : b.drop (i + 1) = b[i + 1] :: b.drop (i + 2) := List.drop_eq_getElem_cons (by omega)
  rw [e1, e2, List.set_append]
  have hl : (b.take i).length = i := by rw [List.length_take]; omega
  rw [hl, if_neg (by omega), show i + 1 - i = 1 by omega]
  rw [List.set_cons_succ, List.set_cons_zero, List.append_assoc]
  rfl

/-- leat/leatref10.Fill -/
noncomputable def B45 : Code := bodyOf Try.f45
set_option maxHeartbeats 4000000 in
theorem RefFill_ok (A : Option Addr) (c : Nat) (b : List Int) (at_ : Int) (G : Mem) (hb : rowAt (D.int .u8) G A b) (hle : b.length ≤ c) (hmx : c ≤ maxLen) (hsz : b.length ≤ 300) (h0 : -9223372036854775808 ≤ at_ ∧ at_ ≤ 9223372036854775807) : CallsG Try.prog 45 [.slice A b.length c, .int .i64 at_] G (fun _ v rows => (¬ (0 ≤ at_ ∧ at_ % 2 = 0 ∧ at_ + 2 ≤ (b.length : Int)) → v = .tuple #[.slice none 0 0, .bool false] ∧ rows = []) ∧ ((0 ≤ at_ ∧ at_ % 2 = 0 ∧ at_ + 2 ≤ (b.length : Int)) → ∃ A' c', v = .tuple #[.slice A' b.length c', .bool true] ∧ b.length ≤ c' ∧ rows = [⟨5, 1, .slice A' b.length c', b.length, (filled b at_).map (Value.int .u8)⟩])) := by
  simp only [maxLen] at hmx
  refine CallsG.enter Try.func45 rfl rfl ?_
  intro w
  refine X.run 12 [0, 1, 4, 5, 10] [] (.ops (aA B45 [1, 0, 0]) (oA B45 [1, 0, 0] 3 :: lA B45 [1, 0, 0] 4)) [.seq (cA B45 [1, 0, 1]), .seq (cA B45 [1, 1])] ⟨50, [(0, .v (.slice A b.length c)), (1, .v (.int .i64 at_)), (4, .v (.slice none 0 0)), (5, .v (.bool false)), (10, .v (.bool (decide (at_ < 0))))], []⟩ (by kernel_rfl) ?_
  refine X.split 10 rfl (fun h1 => ?_) (fun h1 => ?_)
  · -- slot 10: decide (at_ < 0) is True
    replace h1 : at_ < 0 := of_decide_eq_true h1
    refine X.run 22 [4, 5] [] (.ex .ret) [] ⟨50, [(4, .v (.slice none 0 0)), (5, .v (.bool false))], []⟩ (by kernel_rfl) ?_
    refine doneG (.inl rfl) [.slice none 0 0, .bool false] [] (by kernel_rfl) rfl rfl (Ge.refl _ _) ?_
    -- end 1 (T)
    exact ⟨fun _ => ⟨rfl, rfl⟩, fun h => by exfalso; omega⟩
  · -- slot 10: decide (at_ < 0) is False
    replace h1 : ¬ (at_ < 0) := of_decide_eq_false h1
    refine X.run 2 [0, 1, 4, 5, 10, 12] [] (.ops (aA B45 [1, 0, 0]) (oA B45 [1, 0, 0] 5 :: lA B45 [1, 0, 0] 6)) [.seq (cA B45 [1, 0, 1]), .seq (cA B45 [1, 1])] ⟨50, [(0, .v (.slice A b.length c)), (1, .v (.int .i64 at_)), (4, .v (.slice none 0 0)), (5, .v (.bool false)), (10, .v (.bool false)), (12, .v (.int .i64 (Int.tmod at_ 2)))], []⟩ (by kernel_rfl) ?_
    refine X.known 12 (y := .v (.int .i64 (at_ % 2))) rfl (congrArg (fun z_ => AV.v (.int .i64 z_)) (Int.tmod_eq_emod_of_nonneg (by omega))) ?_
    refine X.run 3 [0, 1, 4, 5, 15] [] (.ops (aA B45 [1, 0, 0]) (oA B45 [1, 0, 0] 8 :: lA B45 [1, 0, 0] 9)) [.seq (cA B45 [1, 0, 1]), .seq (cA B45 [1, 1])] ⟨50, [(0, .v (.slice A b.length c)), (1, .v (.int .i64 at_)), (4, .v (.slice none 0 0)), (5, .v (.bool false)), (15, .v (.bool ((at_ % 2) == 1)))], []⟩ (by kernel_rfl) ?_
    refine X.split 15 rfl (fun h2 => ?_) (fun h2 => ?_)
    · -- slot 15: (at_ % 2) == 1 is True
      replace h2 : (at_ % 2) = 1 := by simpa using h2
      refine X.run 17 [4, 5] [] (.ex .ret) [] ⟨50, [(4, .v (.slice none 0 0)), (5, .v (.bool false))], []⟩ (by kernel_rfl) ?_
      refine doneG (.inl rfl) [.slice none 0 0, .bool false] [] (by kernel_rfl) rfl rfl (Ge.refl _ _) ?_
      -- end 2 (FT)
      exact ⟨fun _ => ⟨rfl, rfl⟩, fun h => by exfalso; omega⟩
    · -- slot 15: (at_ % 2) == 1 is False
      replace h2 : (at_ % 2) ≠ 1 := by simpa using h2
      refine X.run 4 [0, 1, 4, 5, 15, 16, 19] [] (.ops (aA B45 [1, 0, 0]) (oA B45 [1, 0, 0] 12 :: lA B45 [1, 0, 0] 13)) [.seq (cA B45 [1, 0, 1]), .seq (cA B45 [1, 1])] ⟨50, [(0, .v (.slice A b.length c)), (1, .v (.int .i64 at_)), (4, .v (.slice none 0 0)), (5, .v (.bool false)), (15, .v (.bool false)), (16, .v (.int .i64 at_)), (19, .v (.int .i64 (IntKind.i64.wrap (((b.length : Nat) : Int) - 2))))], []⟩ (by kernel_rfl) ?_
      refine X.known 19 (y := .v (.int .i64 (((b.length : Nat) : Int) - 2))) rfl (congrArg (fun z_ => AV.v (.int .i64 z_)) (wi64 (by omega) (by omega))) ?_
      refine X.run 4 [0, 1, 4, 5, 21] [] (.code (cA B45 [1, 0, 1])) [.seq (cA B45 [1, 1])] ⟨50, [(0, .v (.slice A b.length c)), (1, .v (.int .i64 at_)), (4, .v (.slice none 0 0)), (5, .v (.bool false)), (21, .v (.bool (decide (at_ > ((b.length : Nat) : Int) - 2))))], []⟩ (by kernel_rfl) ?_
      refine X.split 21 rfl (fun h3 => ?_) (fun h3 => ?_)
      · -- slot 21: decide (at_ > ((b.length : Nat) : Int) - 2) is True
        replace h3 : at_ > ((b.length : Nat) : Int) - 2 := of_decide_eq_true h3
        refine X.run 9 [4, 5] [] (.ex .ret) [] ⟨50, [(4, .v (.slice none 0 0)), (5, .v (.bool false))], []⟩ (by kernel_rfl) ?_
        refine doneG (.inl rfl) [.slice none 0 0, .bool false] [] (by kernel_rfl) rfl rfl (Ge.refl _ _) ?_
        -- end 3 (FFT)
        exact ⟨fun _ => ⟨rfl, rfl⟩, fun h => by exfalso; omega⟩
      · -- slot 21: decide (at_ > ((b.length : Nat) : Int) - 2) is False
        replace h3 : ¬ (at_ > ((b.length : Nat) : Int) - 2) := of_decide_eq_false h3
        refine X.run 4 [0, 1, 4, 5] [] (.code (cA B45 [1, 1, 0])) [.seq (cA B45 [1, 1, 1])] ⟨50, [(0, .v (.slice A b.length c)), (1, .v (.int .i64 at_)), (4, .v (.slice none 0 0)), (5, .v (.bool false))], []⟩ (by kernel_rfl) ?_
        have hb_d4 := hb
        refine XD.open (id := 3) (arr := aA B45 [1, 1, 0]) 13 [] [] [] (by kernel_rfl) (by kernel_rfl) (by kernel_rfl) (by kernel_rfl) (by kernel_rfl) trivial (by simp) rfl (fun ρ0 => ?_)
        refine XD.take (i := 1) (l' := (lb 13 2)) (oA B45 [1, 1, 0] 1) (.v (.slice A b.length c)) QOk.ctxG (by kernel_rfl) (by kernel_rfl) (by kernel_rfl) (by kernel_rfl) (by kernel_rfl) ?_
        refine XD.take (i := 2) (l' := (lb 13 6)) (oA B45 [1, 1, 0] 2) (.v (.int .i64 at_)) QOk.ctxG (by kernel_rfl) (by kernel_rfl) (by kernel_rfl) (by kernel_rfl) (by kernel_rfl) ?_
        have hlo5 : 0 ≤ (at_).toNat := by omega
        have hhi5 : (at_).toNat ≤ b.length := by omega
        refine XD.cut (i := 3) (l' := (lb 13 14)) (o := (oA B45 [1, 1, 0] 3)) (t := 22) (e := 5) (sz := 1) (n := b.length) (c := c) (A := A) (x := .tmp 23) (l0 := none) (h := (some (.tmp 24))) (lv := none) (hv := (some (.int .i64 at_))) 0 ((at_).toNat) QOk.ctxG (by kernel_rfl) (by kernel_rfl) (by kernel_rfl) (by kernel_rfl) (by kernel_rfl) (by kernel_rfl) (by kernel_rfl) (by kernel_rfl) (by kernel_rfl) (rfl) (⟨_, _, rfl, by omega, rfl⟩) hlo5 (Nat.le_trans hhi5 hle) (by kernel_rfl) ?_
        obtain ⟨A5, hA5⟩ : ∃ A_, cutA A c 0 1 = A_ := ⟨_, rfl⟩
        obtain ⟨ys5, hys5⟩ : ∃ l_, (b.take ((at_).toNat)).drop 0 = l_ := ⟨_, rfl⟩
        have hr5 : rowAt (D.int .u8) G (cutA A c 0 1) ((b.take ((at_).toNat)).drop 0) := rowAt_cut hb hlo5 hhi5 hle
        have hl5 : ((at_).toNat) - 0 = ys5.length := by rw [← hys5, List.length_drop, List.length_take]; omega
        have hc5 : ys5.length ≤ c - 0 := by omega
        have hm5 : c - 0 ≤ maxLen := Nat.le_trans (Nat.sub_le _ _) hmx
        rw [hys5, show cutA A c 0 _ = A5 from hA5] at hr5
        rw [hA5, hl5]
        refine XD.take (i := 7) (l' := (lb 13 142)) (oA B45 [1, 1, 0] 7) (.v (.slice A b.length c)) QOk.ctxG (by kernel_rfl) (by kernel_rfl) (by kernel_rfl) (by kernel_rfl) (by kernel_rfl) ?_
        refine XD.take (i := 8) (l' := (lb 13 398)) (oA B45 [1, 1, 0] 8) (.v (.int .i64 at_)) QOk.ctxG (by kernel_rfl) (by kernel_rfl) (by kernel_rfl) (by kernel_rfl) (by kernel_rfl) ?_
        refine XD.take (i := 9) (l' := (lb 13 910)) (oA B45 [1, 1, 0] 9) (.v (.int .i64 (IntKind.i64.wrap (at_ + 2)))) QOk.ctxG (by kernel_rfl) (by kernel_rfl) (by kernel_rfl) (by kernel_rfl) (by kernel_rfl) ?_
        refine XD.known 31 (y := .v (.int .i64 (at_ + 2))) rfl (congrArg (fun z_ => AV.v (.int .i64 z_)) (wi64 (by omega) (by omega))) ?_
        have hlo6 : (at_ + 2).toNat ≤ b.length := by omega
        have hhi6 : b.length ≤ b.length := by omega
        refine XD.cut (i := 10) (l' := (lb 13 1934)) (o := (oA B45 [1, 1, 0] 10)) (t := 22) (e := 5) (sz := 1) (n := b.length) (c := c) (A := A) (x := .tmp 29) (l0 := (some (.tmp 31))) (h := none) (lv := (some (.int .i64 (at_ + 2)))) (hv := none) ((at_ + 2).toNat) b.length QOk.ctxG (by kernel_rfl) (by kernel_rfl) (by kernel_rfl) (by kernel_rfl) (by kernel_rfl) (by kernel_rfl) (by kernel_rfl) (by kernel_rfl) (by kernel_rfl) (⟨_, _, rfl, by omega, rfl⟩) (rfl) hlo6 (Nat.le_trans hhi6 hle) (by kernel_rfl) ?_
        obtain ⟨A6, hA6⟩ : ∃ A_, cutA A c ((at_ + 2).toNat) 1 = A_ := ⟨_, rfl⟩
        obtain ⟨ys6, hys6⟩ : ∃ l_, (b.take b.length).drop ((at_ + 2).toNat) = l_ := ⟨_, rfl⟩
        have hr6 : rowAt (D.int .u8) G (cutA A c ((at_ + 2).toNat) 1) ((b.take b.length).drop ((at_ + 2).toNat)) := rowAt_cut hb hlo6 hhi6 hle
        have hl6 : b.length - ((at_ + 2).toNat) = ys6.length := by rw [← hys6, List.length_drop, List.length_take]; omega
        have hc6 : ys6.length ≤ c - ((at_ + 2).toNat) := by omega
        have hm6 : c - ((at_ + 2).toNat) ≤ maxLen := Nat.le_trans (Nat.sub_le _ _) hmx
        rw [hys6, show cutA A c ((at_ + 2).toNat) _ = A6 from hA6] at hr6
        rw [hA6, hl6]
        refine XD.norm [1, 4, 5, 25, 32] [] ⟨50, [(1, .v (.int .i64 at_)), (4, .v (.slice none 0 0)), (5, .v (.bool false)), (25, .v (.slice A5 ys5.length (c - 0))), (32, .v (.slice A6 ys6.length (c - ((at_ + 2).toNat))))], []⟩ (by kernel_rfl) trivial ?_
        refine XD.two (i := 0) (j := 5) (li := (lb 13 1935)) (lj := (lb 13 1966)) (oA B45 [1, 1, 0] 0) (oA B45 [1, 1, 0] 5) (by kernel_rfl) (by kernel_rfl) (by kernel_rfl) (by kernel_rfl) (by kernel_rfl) ?_ ?_
        · -- 0 first
          refine X.lit 22 5 1 0 [] (by kernel_rfl) (fun g => by kernel_rfl) ?_
          intro A7
          refine X.back ⟨trivial, Le.refl _, rfl, ?_⟩
          refine XD.norm [1, 4, 5, 22, 25, 32] [] ⟨50, [(1, .v (.int .i64 at_)), (4, .v (.slice none 0 0)), (5, .v (.bool false)), (22, .v (.slice A7 0 0)), (25, .v (.slice A5 ys5.length (c - 0))), (32, .v (.slice A6 ys6.length (c - ((at_ + 2).toNat))))], []⟩ (by kernel_rfl) trivial ?_
          refine XD.two (i := 4) (j := 5) (li := (lb 13 1951)) (lj := (lb 13 1967)) (oA B45 [1, 1, 0] 4) (oA B45 [1, 1, 0] 5) (by kernel_rfl) (by kernel_rfl) (by kernel_rfl) (by kernel_rfl) (by kernel_rfl) ?_ ?_
          · -- 4 first
            refine X.appendW 22 ⟨5, 1, .slice A7 0 0, 0, []⟩ 22 1 (.int .u8 0) (x := .tmp 22) (y := .tmp 25) (n := 0) (c := 0) (m := ys5.length) (c2 := c - 0) (A := A7) (B := A5) (news := ys5.map (Value.int .u8)) (by kernel_rfl) (by kernel_rfl) (by kernel_rfl) (by kernel_rfl) (by kernel_rfl) rfl (Nat.succ_pos _) (by kernel_rfl) (.inl rfl) rfl rfl (by simp) (at_ints [(22, ⟨5, 1, .slice A7 0 0, 0, []⟩)] hr5) (fun _ _ e => rowAt.none hr5 e) ones_ints (by omega) (by decide) ?_
            intro A8 c8 hc8
            refine X.tellR [22] (R' := [(22, ⟨5, 1, .slice A8 (0 + ys5.length) c8, 0 + ys5.length, (ys5).map (Value.int .u8)⟩)]) (congrArg (fun cs_ => (22, (⟨5, 1, .slice A8 (0 + ys5.length) c8, 0 + ys5.length, cs_⟩ : Row)) :: []) (show [] ++ (ys5.map (Value.int .u8)) = (ys5).map (Value.int .u8) by simp)) ?_
            refine X.back ⟨trivial, Le.refl _, rfl, ?_⟩
            refine XD.norm [1, 4, 5, 26, 32] [] ⟨50, [(1, .v (.int .i64 at_)), (4, .v (.slice none 0 0)), (5, .v (.bool false)), (26, .v (.slice A8 (0 + ys5.length) c8)), (32, .v (.slice A6 ys6.length (c - ((at_ + 2).toNat))))], []⟩ (by kernel_rfl) trivial ?_
            refine XD.one (i := 5) (l' := (lb 13 1983)) (oA B45 [1, 1, 0] 5) (by kernel_rfl) (by kernel_rfl) (by kernel_rfl) ?_
            refine X.lit 27 5 1 2 [.int .u8 0, .int .u8 0] (by kernel_rfl) (fun g => by kernel_rfl) ?_
            intro A9
            refine X.back ⟨trivial, Le.refl _, rfl, ?_⟩
            refine XD.norm [1, 4, 5, 26, 27, 32] [] ⟨50, [(1, .v (.int .i64 at_)), (4, .v (.slice none 0 0)), (5, .v (.bool false)), (26, .v (.slice A8 (0 + ys5.length) c8)), (27, .v (.slice A9 2 2)), (32, .v (.slice A6 ys6.length (c - ((at_ + 2).toNat))))], []⟩ (by kernel_rfl) trivial ?_
            refine XD.one (i := 6) (l' := (lb 13 2047)) (oA B45 [1, 1, 0] 6) (by kernel_rfl) (by kernel_rfl) (by kernel_rfl) ?_
            refine X.append 22 ⟨5, 1, .slice A8 (0 + ys5.length) c8, 0 + ys5.length, (ys5).map (Value.int .u8)⟩ 22 1 (.int .u8 0) (x := .tmp 26) (y := .tmp 27) (n := 0 + ys5.length) (c := c8) (m := 2) (c2 := 2) (A := A8) (B := A9) (news := [.int .u8 0, .int .u8 0]) (by kernel_rfl) (by kernel_rfl) (by kernel_rfl) (by kernel_rfl) (by kernel_rfl) rfl (Nat.succ_pos _) (by kernel_rfl) (.inl rfl) rfl rfl (by kernel_rfl) (At.of_row (i := 27) (r := ⟨5, 1, .slice A9 2 2, 2, [.int .u8 0, .int .u8 0]⟩) rfl rfl) (fun w hw e => absurd (rowSome (i := 27) (q := ⟨5, 1, .slice A9 2 2, 2, [.int .u8 0, .int .u8 0]⟩) rfl rfl (Nat.succ_pos _) w hw) (by rw [e]; decide)) (ones (by kernel_rfl)) (by omega) (by decide) ?_
            intro A10 c10 hc10
            refine X.tellR [22, 27] (R' := [(22, ⟨5, 1, .slice A10 (0 + ys5.length + 2) c10, 0 + ys5.length + 2, (ys5 ++ [0, 0]).map (Value.int .u8)⟩), (27, ⟨5, 1, .slice A9 2 2, 2, [.int .u8 0, .int .u8 0]⟩)]) (congrArg (fun cs_ => (22, (⟨5, 1, .slice A10 (0 + ys5.length + 2) c10, 0 + ys5.length + 2, cs_⟩ : Row)) :: [(27, ⟨5, 1, .slice A9 2 2, 2, [.int .u8 0, .int .u8 0]⟩)]) (show (ys5).map (Value.int .u8) ++ [.int .u8 0, .int .u8 0] = (ys5 ++ [0, 0]).map (Value.int .u8) by simp)) ?_
            refine X.back ⟨trivial, Le.refl _, rfl, ?_⟩
            refine XD.norm [1, 4, 5, 28, 32] [] ⟨50, [(1, .v (.int .i64 at_)), (4, .v (.slice none 0 0)), (5, .v (.bool false)), (28, .v (.slice A10 (0 + ys5.length + 2) c10)), (32, .v (.slice A6 ys6.length (c - ((at_ + 2).toNat))))], []⟩ (by kernel_rfl) trivial ?_
            refine XD.one (i := 11) (l' := (lb 13 4095)) (oA B45 [1, 1, 0] 11) (by kernel_rfl) (by kernel_rfl) (by kernel_rfl) ?_
            refine X.appendW 22 ⟨5, 1, .slice A10 (0 + ys5.length + 2) c10, 0 + ys5.length + 2, (ys5 ++ [0, 0]).map (Value.int .u8)⟩ 22 1 (.int .u8 0) (x := .tmp 28) (y := .tmp 32) (n := 0 + ys5.length + 2) (c := c10) (m := ys6.length) (c2 := c - ((at_ + 2).toNat)) (A := A10) (B := A6) (news := ys6.map (Value.int .u8)) (by kernel_rfl) (by kernel_rfl) (by kernel_rfl) (by kernel_rfl) (by kernel_rfl) rfl (Nat.succ_pos _) (by kernel_rfl) (.inl rfl) rfl rfl (by simp) (at_ints [(22, ⟨5, 1, .slice A10 (0 + ys5.length + 2) c10, 0 + ys5.length + 2, (ys5 ++ [0, 0]).map (Value.int .u8)⟩), (27, ⟨5, 1, .slice A9 2 2, 2, [.int .u8 0, .int .u8 0]⟩)] hr6) (fun _ _ e => rowAt.none hr6 e) ones_ints (by omega) (by decide) ?_
            intro A11 c11 hc11
            refine X.tellR [22] (R' := [(22, ⟨5, 1, .slice A11 (0 + ys5.length + 2 + ys6.length) c11, 0 + ys5.length + 2 + ys6.length, (ys5 ++ [0, 0] ++ ys6).map (Value.int .u8)⟩)]) (congrArg (fun cs_ => (22, (⟨5, 1, .slice A11 (0 + ys5.length + 2 + ys6.length) c11, 0 + ys5.length + 2 + ys6.length, cs_⟩ : Row)) :: []) (show (ys5 ++ [0, 0]).map (Value.int .u8) ++ (ys6.map (Value.int .u8)) = (ys5 ++ [0, 0] ++ ys6).map (Value.int .u8) by simp)) ?_
            refine X.back ⟨trivial, Le.refl _, rfl, ?_⟩
            refine XD.take (i := 12) (l' := (lb 13 8191)) (oA B45 [1, 1, 0] 12) (.v (.slice A11 (0 + ys5.length + 2 + ys6.length) c11)) QOk.ctxG (by kernel_rfl) (by kernel_rfl) (by kernel_rfl) (by kernel_rfl) (by kernel_rfl) ?_
            refine XD.done (by kernel_rfl) ?_
            refine X.run 4 [1, 4, 5, 6, 34] [] (.ops (aA B45 [1, 1, 1, 0]) (oA B45 [1, 1, 1, 0] 1 :: lA B45 [1, 1, 1, 0] 2)) [.seq (cA B45 [1, 1, 1, 1])] ⟨50, [(1, .v (.int .i64 at_)), (4, .v (.slice none 0 0)), (5, .v (.bool false)), (6, .v (.slice A11 (0 + ys5.length + 2 + ys6.length) c11)), (34, .v (.slice A11 (0 + ys5.length + 2 + ys6.length) c11))], []⟩ (by kernel_rfl) ?_
            refine X.capLe (i := 22) (q := ⟨5, 1, .slice A11 (0 + ys5.length + 2 + ys6.length) c11, 0 + ys5.length + 2 + ys6.length, (ys5 ++ [0, 0] ++ ys6).map (Value.int .u8)⟩) (n := 0 + ys5.length + 2 + ys6.length) (c := c11) (A := A11) rfl rfl fun hn12 hx12 => ?_
            have hl12 : (ys5 ++ [0, 0] ++ ys6).length = 0 + ys5.length + 2 + ys6.length := by simp <;> omega
            have hb12 : isBytes (ys5 ++ [0, 0] ++ ys6) := fun x hx => by
              simp only [List.mem_append, List.mem_cons, List.not_mem_nil, or_false] at hx
              rcases hx with (h_ | rfl | rfl) | h_
              · exact row_bytes hr5 x h_
              · exact ⟨by decide, by decide⟩
              · exact ⟨by decide, by decide⟩
              · exact row_bytes hr6 x h_
            refine X.callV (f := 29) (l := [.v (.slice A11 (0 + ys5.length + 2 + ys6.length) c11)]) (Q := fun v_ => v_ = .int .u16 (cks (ys5 ++ [0, 0] ++ ys6))) [.slice A11 (0 + ys5.length + 2 + ys6.length) c11] (by kernel_rfl) (by kernel_rfl) (by kernel_rfl) (fun G1_ hl_ hr_ => (show CallsG Try.prog 29 [.slice A11 (0 + ys5.length + 2 + ys6.length) c11] G1_ (fun _ v rows => v = .int .u16 (cks (ys5 ++ [0, 0] ++ ys6)) ∧ rows = []) by rw [← hl12]; exact SumRef_ok _ _ (ys5 ++ [0, 0] ++ ys6) G1_ (rowLit (hr_ 22 _ rfl) (reps_ints hb12) (by decide)) (by omega) hx12 (by omega)).mono (fun _ _ _ _ h_ => h_.1)) ?_
            rintro _ rfl
            refine X.run 10 [1, 4, 5, 6, 7, 36, 37, 40] [] (.ops (aA B45 [1, 1, 1, 1, 0]) (oA B45 [1, 1, 1, 1, 0] 5 :: lA B45 [1, 1, 1, 1, 0] 6)) [.seq (cA B45 [1, 1, 1, 1, 1])] ⟨50, [(1, .v (.int .i64 at_)), (4, .v (.slice none 0 0)), (5, .v (.bool false)), (6, .v (.slice A11 (0 + ys5.length + 2 + ys6.length) c11)), (7, .v (.int .u16 (cks (ys5 ++ [0, 0] ++ ys6)))), (36, .v (.slice A11 (0 + ys5.length + 2 + ys6.length) c11)), (37, .v (.int .i64 at_)), (40, .v (.int .u8 (IntKind.u8.wrap (IntKind.u16.wrap (Int.tdiv (cks (ys5 ++ [0, 0] ++ ys6)) 256)))))], []⟩ (by kernel_rfl) ?_
            have b13 : (0 : Int) ≤ at_ := by omega
            have b14 : at_ < ((0 + ys5.length + 2 + ys6.length : Nat) : Int) := by omega
            refine X.index (t := 22) (e := 5) (sz := 1) (A := A11) (n := 0 + ys5.length + 2 + ys6.length) (c := c11) (ki := .i64) (i := at_) (x := .tmp 36) (ix := .tmp 37) (by kernel_rfl) (by kernel_rfl) (by kernel_rfl) (by kernel_rfl) (by kernel_rfl) (by kernel_rfl) b13 b14 (rowSome (i := 22) (q := ⟨5, 1, .slice A11 (0 + ys5.length + 2 + ys6.length) c11, 0 + ys5.length + 2 + ys6.length, (ys5 ++ [0, 0] ++ ys6).map (Value.int .u8)⟩) rfl rfl (by simp; omega)) ?_
            refine X.run 0 [1, 4, 5, 6, 7, 40, 41] [] (.ops (aA B45 [1, 1, 1, 1, 0]) (oA B45 [1, 1, 1, 1, 0] 6 :: lA B45 [1, 1, 1, 1, 0] 7)) [.seq (cA B45 [1, 1, 1, 1, 1])] ⟨50, [(1, .v (.int .i64 at_)), (4, .v (.slice none 0 0)), (5, .v (.bool false)), (6, .v (.slice A11 (0 + ys5.length + 2 + ys6.length) c11)), (7, .v (.int .u16 (cks (ys5 ++ [0, 0] ++ ys6)))), (40, .v (.int .u8 (IntKind.u8.wrap (IntKind.u16.wrap (Int.tdiv (cks (ys5 ++ [0, 0] ++ ys6)) 256))))), (41, .v (elt A11 ((at_).toNat * 1)))], []⟩ (by kernel_rfl) ?_
            refine X.storeElem (i := 22) (t := 5) (j := (at_).toNat * 1) (n := 0 + ys5.length + 2 + ys6.length) (c := c11) (q := ⟨5, 1, .slice A11 (0 + ys5.length + 2 + ys6.length) c11, 0 + ys5.length + 2 + ys6.length, (ys5 ++ [0, 0] ++ ys6).map (Value.int .u8)⟩) (A := A11) (x := .tmp 41) (y := .tmp 40) (z := .int .u8 (IntKind.u8.wrap (IntKind.u16.wrap (Int.tdiv (cks (ys5 ++ [0, 0] ++ ys6)) 256)))) (by kernel_rfl) (by kernel_rfl) (by kernel_rfl) rfl rfl (by kernel_rfl) (by show _ + 1 ≤ _; simp; omega) (by kernel_rfl) (Nat.succ_pos _) (by kernel_rfl) ?_
            refine X.tellR [22] (R' := [(22, ⟨5, 1, .slice A11 (0 + ys5.length + 2 + ys6.length) c11, 0 + ys5.length + 2 + ys6.length, ((ys5 ++ [0, 0] ++ ys6).set ((at_).toNat) (IntKind.u8.wrap (IntKind.u16.wrap (Int.tdiv (cks (ys5 ++ [0, 0] ++ ys6)) 256)))).map (Value.int .u8)⟩)]) (congrArg (fun cs_ => (22, (⟨5, 1, .slice A11 (0 + ys5.length + 2 + ys6.length) c11, 0 + ys5.length + 2 + ys6.length, cs_⟩ : Row)) :: []) (splice_ints1 (kd := .u8) (l := (ys5 ++ [0, 0] ++ ys6)) (j := ((at_).toNat)) (x := (IntKind.u8.wrap (IntKind.u16.wrap (Int.tdiv (cks (ys5 ++ [0, 0] ++ ys6)) 256)))) (by (try simp only [List.length_set]); omega))) ?_
            refine X.run 7 [4, 5, 6, 7, 42, 44] [] (.ops (aA B45 [1, 1, 1, 1, 1, 0]) (oA B45 [1, 1, 1, 1, 1, 0] 3 :: lA B45 [1, 1, 1, 1, 1, 0] 4)) [.seq (cA B45 [1, 1, 1, 1, 1, 1])] ⟨50, [(4, .v (.slice none 0 0)), (5, .v (.bool false)), (6, .v (.slice A11 (0 + ys5.length + 2 + ys6.length) c11)), (7, .v (.int .u16 (cks (ys5 ++ [0, 0] ++ ys6)))), (42, .v (.slice A11 (0 + ys5.length + 2 + ys6.length) c11)), (44, .v (.int .i64 (IntKind.i64.wrap (at_ + 1))))], []⟩ (by kernel_rfl) ?_
            refine X.known 44 (y := .v (.int .i64 (at_ + 1))) rfl (congrArg (fun z_ => AV.v (.int .i64 z_)) (wi64 (by omega) (by omega))) ?_
            refine X.run 3 [4, 5, 6, 42, 44, 47] [] (.ops (aA B45 [1, 1, 1, 1, 1, 0]) (oA B45 [1, 1, 1, 1, 1, 0] 6 :: lA B45 [1, 1, 1, 1, 1, 0] 7)) [.seq (cA B45 [1, 1, 1, 1, 1, 1])] ⟨50, [(4, .v (.slice none 0 0)), (5, .v (.bool false)), (6, .v (.slice A11 (0 + ys5.length + 2 + ys6.length) c11)), (42, .v (.slice A11 (0 + ys5.length + 2 + ys6.length) c11)), (44, .v (.int .i64 (at_ + 1))), (47, .v (.int .u8 (IntKind.u8.wrap (Int.tmod (cks (ys5 ++ [0, 0] ++ ys6)) 256))))], []⟩ (by kernel_rfl) ?_
            have b15 : (0 : Int) ≤ at_ + 1 := by omega
            have b16 : at_ + 1 < ((0 + ys5.length + 2 + ys6.length : Nat) : Int) := by omega
            refine X.index (t := 22) (e := 5) (sz := 1) (A := A11) (n := 0 + ys5.length + 2 + ys6.length) (c := c11) (ki := .i64) (i := at_ + 1) (x := .tmp 42) (ix := .tmp 44) (by kernel_rfl) (by kernel_rfl) (by kernel_rfl) (by kernel_rfl) (by kernel_rfl) (by kernel_rfl) b15 b16 (rowSome (i := 22) (q := ⟨5, 1, .slice A11 (0 + ys5.length + 2 + ys6.length) c11, 0 + ys5.length + 2 + ys6.length, ((ys5 ++ [0, 0] ++ ys6).set ((at_).toNat) (IntKind.u8.wrap (IntKind.u16.wrap (Int.tdiv (cks (ys5 ++ [0, 0] ++ ys6)) 256)))).map (Value.int .u8)⟩) rfl rfl (by simp; omega)) ?_
            refine X.run 0 [4, 5, 6, 47, 48] [] (.ops (aA B45 [1, 1, 1, 1, 1, 0]) (oA B45 [1, 1, 1, 1, 1, 0] 7 :: lA B45 [1, 1, 1, 1, 1, 0] 8)) [.seq (cA B45 [1, 1, 1, 1, 1, 1])] ⟨50, [(4, .v (.slice none 0 0)), (5, .v (.bool false)), (6, .v (.slice A11 (0 + ys5.length + 2 + ys6.length) c11)), (47, .v (.int .u8 (IntKind.u8.wrap (Int.tmod (cks (ys5 ++ [0, 0] ++ ys6)) 256)))), (48, .v (elt A11 ((at_ + 1).toNat * 1)))], []⟩ (by kernel_rfl) ?_
            refine X.storeElem (i := 22) (t := 5) (j := (at_ + 1).toNat * 1) (n := 0 + ys5.length + 2 + ys6.length) (c := c11) (q := ⟨5, 1, .slice A11 (0 + ys5.length + 2 + ys6.length) c11, 0 + ys5.length + 2 + ys6.length, ((ys5 ++ [0, 0] ++ ys6).set ((at_).toNat) (IntKind.u8.wrap (IntKind.u16.wrap (Int.tdiv (cks (ys5 ++ [0, 0] ++ ys6)) 256)))).map (Value.int .u8)⟩) (A := A11) (x := .tmp 48) (y := .tmp 47) (z := .int .u8 (IntKind.u8.wrap (Int.tmod (cks (ys5 ++ [0, 0] ++ ys6)) 256))) (by kernel_rfl) (by kernel_rfl) (by kernel_rfl) rfl rfl (by kernel_rfl) (by show _ + 1 ≤ _; simp; omega) (by kernel_rfl) (Nat.succ_pos _) (by kernel_rfl) ?_
            refine X.tellR [22] (R' := [(22, ⟨5, 1, .slice A11 (0 + ys5.length + 2 + ys6.length) c11, 0 + ys5.length + 2 + ys6.length, (((ys5 ++ [0, 0] ++ ys6).set ((at_).toNat) (IntKind.u8.wrap (IntKind.u16.wrap (Int.tdiv (cks (ys5 ++ [0, 0] ++ ys6)) 256)))).set ((at_ + 1).toNat) (IntKind.u8.wrap (Int.tmod (cks (ys5 ++ [0, 0] ++ ys6)) 256))).map (Value.int .u8)⟩)]) (congrArg (fun cs_ => (22, (⟨5, 1, .slice A11 (0 + ys5.length + 2 + ys6.length) c11, 0 + ys5.length + 2 + ys6.length, cs_⟩ : Row)) :: []) (splice_ints1 (kd := .u8) (l := ((ys5 ++ [0, 0] ++ ys6).set ((at_).toNat) (IntKind.u8.wrap (IntKind.u16.wrap (Int.tdiv (cks (ys5 ++ [0, 0] ++ ys6)) 256))))) (j := ((at_ + 1).toNat)) (x := (IntKind.u8.wrap (Int.tmod (cks (ys5 ++ [0, 0] ++ ys6)) 256))) (by (try simp only [List.length_set]); omega))) ?_
            refine X.run 10 [4, 5] [] (.ex .ret) [] ⟨50, [(4, .v (.slice A11 (0 + ys5.length + 2 + ys6.length) c11)), (5, .v (.bool true))], []⟩ (by kernel_rfl) ?_
            refine doneG (.inl rfl) [.slice A11 (0 + ys5.length + 2 + ys6.length) c11, .bool true] [22] (by kernel_rfl) rfl rfl (Ge.refl _ _) ?_
            -- end 4 (FFF)
            refine ⟨fun h => by exfalso; apply h; omega, fun _ => ?_⟩
            have hn_ : 0 + ys5.length + 2 + ys6.length = b.length := by omega
            have hz_ : ys5 ++ [0, 0] ++ ys6 = (b.set at_.toNat 0).set (at_ + 1).toNat 0 := by
              rw [← hys5, ← hys6, show (at_ + 1).toNat = at_.toNat + 1 by omega, show (at_ + 2).toNat = at_.toNat + 2 by omega]
              exact set_two 0 0 (by omega)
            rw [hn_] at *
            refine ⟨_, _, rfl, by omega, ?_⟩
            rw [hz_]
            have hzb_ : isBytes ((b.set at_.toNat 0).set (at_ + 1).toNat 0) := bytes_set (bytes_set (row_bytes hb) (by omega)) (by omega)
            have hck_ := cks_bounds hzb_
            unfold filled
            rw [shr_nn hck_.1, show min 8 IntKind.u16.bits = 8 from rfl]
            generalize cks ((b.set at_.toNat 0).set (at_ + 1).toNat 0) = ck_ at *
            rw [show IntKind.u16.wrap (Int.tdiv ck_ 256) = ck_ / 2 ^ 8 from by rw [Int.tdiv_eq_ediv_of_nonneg hck_.1]; exact wu16 (by omega) (by omega), Int.tmod_eq_emod_of_nonneg hck_.1, show IntKind.u8.wrap (ck_ % 256) = IntKind.u8.wrap ck_ from by rw [u8_wrap, u8_wrap]; omega]
          · -- 5 first
            refine X.lit 27 5 1 2 [.int .u8 0, .int .u8 0] (by kernel_rfl) (fun g => by kernel_rfl) ?_
            intro A17
            refine X.back ⟨trivial, Le.refl _, rfl, ?_⟩
            refine XD.norm [1, 4, 5, 22, 25, 27, 32] [] ⟨50, [(1, .v (.int .i64 at_)), (4, .v (.slice none 0 0)), (5, .v (.bool false)), (22, .v (.slice A7 0 0)), (25, .v (.slice A5 ys5.length (c - 0))), (27, .v (.slice A17 2 2)), (32, .v (.slice A6 ys6.length (c - ((at_ + 2).toNat))))], []⟩ (by kernel_rfl) trivial ?_
            refine XD.one (i := 4) (l' := (lb 13 1983)) (oA B45 [1, 1, 0] 4) (by kernel_rfl) (by kernel_rfl) (by kernel_rfl) ?_
            refine X.appendW 22 ⟨5, 1, .slice A7 0 0, 0, []⟩ 22 1 (.int .u8 0) (x := .tmp 22) (y := .tmp 25) (n := 0) (c := 0) (m := ys5.length) (c2 := c - 0) (A := A7) (B := A5) (news := ys5.map (Value.int .u8)) (by kernel_rfl) (by kernel_rfl) (by kernel_rfl) (by kernel_rfl) (by kernel_rfl) rfl (Nat.succ_pos _) (by kernel_rfl) (.inl rfl) rfl rfl (by simp) (at_ints [(27, ⟨5, 1, .slice A17 2 2, 2, [.int .u8 0, .int .u8 0]⟩), (22, ⟨5, 1, .slice A7 0 0, 0, []⟩)] hr5) (fun _ _ e => rowAt.none hr5 e) ones_ints (by omega) (by decide) ?_
            intro A18 c18 hc18
            refine X.tellR [22, 27] (R' := [(22, ⟨5, 1, .slice A18 (0 + ys5.length) c18, 0 + ys5.length, (ys5).map (Value.int .u8)⟩), (27, ⟨5, 1, .slice A17 2 2, 2, [.int .u8 0, .int .u8 0]⟩)]) (congrArg (fun cs_ => (22, (⟨5, 1, .slice A18 (0 + ys5.length) c18, 0 + ys5.length, cs_⟩ : Row)) :: [(27, ⟨5, 1, .slice A17 2 2, 2, [.int .u8 0, .int .u8 0]⟩)]) (show [] ++ (ys5.map (Value.int .u8)) = (ys5).map (Value.int .u8) by simp)) ?_
            refine X.back ⟨trivial, Le.refl _, rfl, ?_⟩
            refine XD.norm [1, 4, 5, 26, 27, 32] [] ⟨50, [(1, .v (.int .i64 at_)), (4, .v (.slice none 0 0)), (5, .v (.bool false)), (26, .v (.slice A18 (0 + ys5.length) c18)), (27, .v (.slice A17 2 2)), (32, .v (.slice A6 ys6.length (c - ((at_ + 2).toNat))))], []⟩ (by kernel_rfl) trivial ?_
            refine XD.one (i := 6) (l' := (lb 13 2047)) (oA B45 [1, 1, 0] 6) (by kernel_rfl) (by kernel_rfl) (by kernel_rfl) ?_
            refine X.append 22 ⟨5, 1, .slice A18 (0 + ys5.length) c18, 0 + ys5.length, (ys5).map (Value.int .u8)⟩ 22 1 (.int .u8 0) (x := .tmp 26) (y := .tmp 27) (n := 0 + ys5.length) (c := c18) (m := 2) (c2 := 2) (A := A18) (B := A17) (news := [.int .u8 0, .int .u8 0]) (by kernel_rfl) (by kernel_rfl) (by kernel_rfl) (by kernel_rfl) (by kernel_rfl) rfl (Nat.succ_pos _) (by kernel_rfl) (.inl rfl) rfl rfl (by kernel_rfl) (At.of_row (i := 27) (r := ⟨5, 1, .slice A17 2 2, 2, [.int .u8 0, .int .u8 0]⟩) rfl rfl) (fun w hw e => absurd (rowSome (i := 27) (q := ⟨5, 1, .slice A17 2 2, 2, [.int .u8 0, .int .u8 0]⟩) rfl rfl (Nat.succ_pos _) w hw) (by rw [e]; decide)) (ones (by kernel_rfl)) (by omega) (by decide) ?_
            intro A19 c19 hc19
            refine X.tellR [22, 27] (R' := [(22, ⟨5, 1, .slice A19 (0 + ys5.length + 2) c19, 0 + ys5.length + 2, (ys5 ++ [0, 0]).map (Value.int .u8)⟩), (27, ⟨5, 1, .slice A17 2 2, 2, [.int .u8 0, .int .u8 0]⟩)]) (congrArg (fun cs_ => (22, (⟨5, 1, .slice A19 (0 + ys5.length + 2) c19, 0 + ys5.length + 2, cs_⟩ : Row)) :: [(27, ⟨5, 1, .slice A17 2 2, 2, [.int .u8 0, .int .u8 0]⟩)]) (show (ys5).map (Value.int .u8) ++ [.int .u8 0, .int .u8 0] = (ys5 ++ [0, 0]).map (Value.int .u8) by simp)) ?_
            refine X.back ⟨trivial, Le.refl _, rfl, ?_⟩
            refine XD.norm [1, 4, 5, 28, 32] [] ⟨50, [(1, .v (.int .i64 at_)), (4, .v (.slice none 0 0)), (5, .v (.bool false)), (28, .v (.slice A19 (0 + ys5.length + 2) c19)), (32, .v (.slice A6 ys6.length (c - ((at_ + 2).toNat))))], []⟩ (by kernel_rfl) trivial ?_
            refine XD.one (i := 11) (l' := (lb 13 4095)) (oA B45 [1, 1, 0] 11) (by kernel_rfl) (by kernel_rfl) (by kernel_rfl) ?_
            refine X.appendW 22 ⟨5, 1, .slice A19 (0 + ys5.length + 2) c19, 0 + ys5.length + 2, (ys5 ++ [0, 0]).map (Value.int .u8)⟩ 22 1 (.int .u8 0) (x := .tmp 28) (y := .tmp 32) (n := 0 + ys5.length + 2) (c := c19) (m := ys6.length) (c2 := c - ((at_ + 2).toNat)) (A := A19) (B := A6) (news := ys6.map (Value.int .u8)) (by kernel_rfl) (by kernel_rfl) (by kernel_rfl) (by kernel_rfl) (by kernel_rfl) rfl (Nat.succ_pos _) (by kernel_rfl) (.inl rfl) rfl rfl (by simp) (at_ints [(22, ⟨5, 1, .slice A19 (0 + ys5.length + 2) c19, 0 + ys5.length + 2, (ys5 ++ [0, 0]).map (Value.int .u8)⟩), (27, ⟨5, 1, .slice A17 2 2, 2, [.int .u8 0, .int .u8 0]⟩)] hr6) (fun _ _ e => rowAt.none hr6 e) ones_ints (by omega) (by decide) ?_
            intro A20 c20 hc20
            refine X.tellR [22] (R' := [(22, ⟨5, 1, .slice A20 (0 + ys5.length + 2 + ys6.length) c20, 0 + ys5.length + 2 + ys6.length, (ys5 ++ [0, 0] ++ ys6).map (Value.int .u8)⟩)]) (congrArg (fun cs_ => (22, (⟨5, 1, .slice A20 (0 + ys5.length + 2 + ys6.length) c20, 0 + ys5.length + 2 + ys6.length, cs_⟩ : Row)) :: []) (show (ys5 ++ [0, 0]).map (Value.int .u8) ++ (ys6.map (Value.int .u8)) = (ys5 ++ [0, 0] ++ ys6).map (Value.int .u8) by simp)) ?_
            refine X.back ⟨trivial, Le.refl _, rfl, ?_⟩
            refine XD.take (i := 12) (l' := (lb 13 8191)) (oA B45 [1, 1, 0] 12) (.v (.slice A20 (0 + ys5.length + 2 + ys6.length) c20)) QOk.ctxG (by kernel_rfl) (by kernel_rfl) (by kernel_rfl) (by kernel_rfl) (by kernel_rfl) ?_
            refine XD.done (by kernel_rfl) ?_
            refine X.run 4 [1, 4, 5, 6, 34] [] (.ops (aA B45 [1, 1, 1, 0]) (oA B45 [1, 1, 1, 0] 1 :: lA B45 [1, 1, 1, 0] 2)) [.seq (cA B45 [1, 1, 1, 1])] ⟨50, [(1, .v (.int .i64 at_)), (4, .v (.slice none 0 0)), (5, .v (.bool false)), (6, .v (.slice A20 (0 + ys5.length + 2 + ys6.length) c20)), (34, .v (.slice A20 (0 + ys5.length + 2 + ys6.length) c20))], []⟩ (by kernel_rfl) ?_
            refine X.capLe (i := 22) (q := ⟨5, 1, .slice A20 (0 + ys5.length + 2 + ys6.length) c20, 0 + ys5.length + 2 + ys6.length, (ys5 ++ [0, 0] ++ ys6).map (Value.int .u8)⟩) (n := 0 + ys5.length + 2 + ys6.length) (c := c20) (A := A20) rfl rfl fun hn21 hx21 => ?_
            have hl21 : (ys5 ++ [0, 0] ++ ys6).length = 0 + ys5.length + 2 + ys6.length := by simp <;> omega
            have hb21 : isBytes (ys5 ++ [0, 0] ++ ys6) := fun x hx => by
              simp only [List.mem_append, List.mem_cons, List.not_mem_nil, or_false] at hx
              rcases hx with (h_ | rfl | rfl) | h_
              · exact row_bytes hr5 x h_
              · exact ⟨by decide, by decide⟩
              · exact ⟨by decide, by decide⟩
              · exact row_bytes hr6 x h_
            refine X.callV (f := 29) (l := [.v (.slice A20 (0 + ys5.length + 2 + ys6.length) c20)]) (Q := fun v_ => v_ = .int .u16 (cks (ys5 ++ [0, 0] ++ ys6))) [.slice A20 (0 + ys5.length + 2 + ys6.length) c20] (by kernel_rfl) (by kernel_rfl) (by kernel_rfl) (fun G1_ hl_ hr_ => (show CallsG Try.prog 29 [.slice A20 (0 + ys5.length + 2 + ys6.length) c20] G1_ (fun _ v rows => v = .int .u16 (cks (ys5 ++ [0, 0] ++ ys6)) ∧ rows = []) by rw [← hl21]; exact SumRef_ok _ _ (ys5 ++ [0, 0] ++ ys6) G1_ (rowLit (hr_ 22 _ rfl) (reps_ints hb21) (by decide)) (by omega) hx21 (by omega)).mono (fun _ _ _ _ h_ => h_.1)) ?_
            rintro _ rfl
            refine X.run 10 [1, 4, 5, 6, 7, 36, 37, 40] [] (.ops (aA B45 [1, 1, 1, 1, 0]) (oA B45 [1, 1, 1, 1, 0] 5 :: lA B45 [1, 1, 1, 1, 0] 6)) [.seq (cA B45 [1, 1, 1, 1, 1])] ⟨50, [(1, .v (.int .i64 at_)), (4, .v (.slice none 0 0)), (5, .v (.bool false)), (6, .v (.slice A20 (0 + ys5.length + 2 + ys6.length) c20)), (7, .v (.int .u16 (cks (ys5 ++ [0, 0] ++ ys6)))), (36, .v (.slice A20 (0 + ys5.length + 2 + ys6.length) c20)), (37, .v (.int .i64 at_)), (40, .v (.int .u8 (IntKind.u8.wrap (IntKind.u16.wrap (Int.tdiv (cks (ys5 ++ [0, 0] ++ ys6)) 256)))))], []⟩ (by kernel_rfl) ?_
            have b22 : (0 : Int) ≤ at_ := by omega
            have b23 : at_ < ((0 + ys5.length + 2 + ys6.length : Nat) : Int) := by omega
            refine X.index (t := 22) (e := 5) (sz := 1) (A := A20) (n := 0 + ys5.length + 2 + ys6.length) (c := c20) (ki := .i64) (i := at_) (x := .tmp 36) (ix := .tmp 37) (by kernel_rfl) (by kernel_rfl) (by kernel_rfl) (by kernel_rfl) (by kernel_rfl) (by kernel_rfl) b22 b23 (rowSome (i := 22) (q := ⟨5, 1, .slice A20 (0 + ys5.length + 2 + ys6.length) c20, 0 + ys5.length + 2 + ys6.length, (ys5 ++ [0, 0] ++ ys6).map (Value.int .u8)⟩) rfl rfl (by simp; omega)) ?_
            refine X.run 0 [1, 4, 5, 6, 7, 40, 41] [] (.ops (aA B45 [1, 1, 1, 1, 0]) (oA B45 [1, 1, 1, 1, 0] 6 :: lA B45 [1, 1, 1, 1, 0] 7)) [.seq (cA B45 [1, 1, 1, 1, 1])] ⟨50, [(1, .v (.int .i64 at_)), (4, .v (.slice none 0 0)), (5, .v (.bool false)), (6, .v (.slice A20 (0 + ys5.length + 2 + ys6.length) c20)), (7, .v (.int .u16 (cks (ys5 ++ [0, 0] ++ ys6)))), (40, .v (.int .u8 (IntKind.u8.wrap (IntKind.u16.wrap (Int.tdiv (cks (ys5 ++ [0, 0] ++ ys6)) 256))))), (41, .v (elt A20 ((at_).toNat * 1)))], []⟩ (by kernel_rfl) ?_
            refine X.storeElem (i := 22) (t := 5) (j := (at_).toNat * 1) (n := 0 + ys5.length + 2 + ys6.length) (c := c20) (q := ⟨5, 1, .slice A20 (0 + ys5.length + 2 + ys6.length) c20, 0 + ys5.length + 2 + ys6.length, (ys5 ++ [0, 0] ++ ys6).map (Value.int .u8)⟩) (A := A20) (x := .tmp 41) (y := .tmp 40) (z := .int .u8 (IntKind.u8.wrap (IntKind.u16.wrap (Int.tdiv (cks (ys5 ++ [0, 0] ++ ys6)) 256)))) (by kernel_rfl) (by kernel_rfl) (by kernel_rfl) rfl rfl (by kernel_rfl) (by show _ + 1 ≤ _; simp; omega) (by kernel_rfl) (Nat.succ_pos _) (by kernel_rfl) ?_
            refine X.tellR [22] (R' := [(22, ⟨5, 1, .slice A20 (0 + ys5.length + 2 + ys6.length) c20, 0 + ys5.length + 2 + ys6.length, ((ys5 ++ [0, 0] ++ ys6).set ((at_).toNat) (IntKind.u8.wrap (IntKind.u16.wrap (Int.tdiv (cks (ys5 ++ [0, 0] ++ ys6)) 256)))).map (Value.int .u8)⟩)]) (congrArg (fun cs_ => (22, (⟨5, 1, .slice A20 (0 + ys5.length + 2 + ys6.length) c20, 0 + ys5.length + 2 + ys6.length, cs_⟩ : Row)) :: []) (splice_ints1 (kd := .u8) (l := (ys5 ++ [0, 0] ++ ys6)) (j := ((at_).toNat)) (x := (IntKind.u8.wrap (IntKind.u16.wrap (Int.tdiv (cks (ys5 ++ [0, 0] ++ ys6)) 256)))) (by (try simp only [List.length_set]); omega))) ?_
            refine X.run 7 [4, 5, 6, 7, 42, 44] [] (.ops (aA B45 [1, 1, 1, 1, 1, 0]) (oA B45 [1, 1, 1, 1, 1, 0] 3 :: lA B45 [1, 1, 1, 1, 1, 0] 4)) [.seq (cA B45 [1, 1, 1, 1, 1, 1])] ⟨50, [(4, .v (.slice none 0 0)), (5, .v (.bool false)), (6, .v (.slice A20 (0 + ys5.length + 2 + ys6.length) c20)), (7, .v (.int .u16 (cks (ys5 ++ [0, 0] ++ ys6)))), (42, .v (.slice A20 (0 + ys5.length + 2 + ys6.length) c20)), (44, .v (.int .i64 (IntKind.i64.wrap (at_ + 1))))], []⟩ (by kernel_rfl) ?_
            refine X.known 44 (y := .v (.int .i64 (at_ + 1))) rfl (congrArg (fun z_ => AV.v (.int .i64 z_)) (wi64 (by omega) (by omega))) ?_
            refine X.run 3 [4, 5, 6, 42, 44, 47] [] (.ops (aA B45 [1, 1, 1, 1, 1, 0]) (oA B45 [1, 1, 1, 1, 1, 0] 6 :: lA B45 [1, 1, 1, 1, 1, 0] 7)) [.seq (cA B45 [1, 1, 1, 1, 1, 1])] ⟨50, [(4, .v (.slice none 0 0)), (5, .v (.bool false)), (6, .v (.slice A20 (0 + ys5.length + 2 + ys6.length) c20)), (42, .v (.slice A20 (0 + ys5.length + 2 + ys6.length) c20)), (44, .v (.int .i64 (at_ + 1))), (47, .v (.int .u8 (IntKind.u8.wrap (Int.tmod (cks (ys5 ++ [0, 0] ++ ys6)) 256))))], []⟩ (by kernel_rfl) ?_
            have b24 : (0 : Int) ≤ at_ + 1 := by omega
            have b25 : at_ + 1 < ((0 + ys5.length + 2 + ys6.length : Nat) : Int) := by omega
            refine X.index (t := 22) (e := 5) (sz := 1) (A := A20) (n := 0 + ys5.length + 2 + ys6.length) (c := c20) (ki := .i64) (i := at_ + 1) (x := .tmp 42) (ix := .tmp 44) (by kernel_rfl) (by kernel_rfl) (by kernel_rfl) (by kernel_rfl) (by kernel_rfl) (by kernel_rfl) b24 b25 (rowSome (i := 22) (q := ⟨5, 1, .slice A20 (0 + ys5.length + 2 + ys6.length) c20, 0 + ys5.length + 2 + ys6.length, ((ys5 ++ [0, 0] ++ ys6).set ((at_).toNat) (IntKind.u8.wrap (IntKind.u16.wrap (Int.tdiv (cks (ys5 ++ [0, 0] ++ ys6)) 256)))).map (Value.int .u8)⟩) rfl rfl (by simp; omega)) ?_
            refine X.run 0 [4, 5, 6, 47, 48] [] (.ops (aA B45 [1, 1, 1, 1, 1, 0]) (oA B45 [1, 1, 1, 1, 1, 0] 7 :: lA B45 [1, 1, 1, 1, 1, 0] 8)) [.seq (cA B45 [1, 1, 1, 1, 1, 1])] ⟨50, [(4, .v (.slice none 0 0)), (5, .v (.bool false)), (6, .v (.slice A20 (0 + ys5.length + 2 + ys6.length) c20)), (47, .v (.int .u8 (IntKind.u8.wrap (Int.tmod (cks (ys5 ++ [0, 0] ++ ys6)) 256)))), (48, .v (elt A20 ((at_ + 1).toNat * 1)))], []⟩ (by kernel_rfl) ?_
            refine X.storeElem (i := 22) (t := 5) (j := (at_ + 1).toNat * 1) (n := 0 + ys5.length + 2 + ys6.length) (c := c20) (q := ⟨5, 1, .slice A20 (0 + ys5.length + 2 + ys6.length) c20, 0 + ys5.length + 2 + ys6.length, ((ys5 ++ [0, 0] ++ ys6).set ((at_).toNat) (IntKind.u8.wrap (IntKind.u16.wrap (Int.tdiv (cks (ys5 ++ [0, 0] ++ ys6)) 256)))).map (Value.int .u8)⟩) (A := A20) (x := .tmp 48) (y := .tmp 47) (z := .int .u8 (IntKind.u8.wrap (Int.tmod (cks (ys5 ++ [0, 0] ++ ys6)) 256))) (by kernel_rfl) (by kernel_rfl) (by kernel_rfl) rfl rfl (by kernel_rfl) (by show _ + 1 ≤ _; simp; omega) (by kernel_rfl) (Nat.succ_pos _) (by kernel_rfl) ?_
            refine X.tellR [22] (R' := [(22, ⟨5, 1, .slice A20 (0 + ys5.length + 2 + ys6.length) c20, 0 + ys5.length + 2 + ys6.length, (((ys5 ++ [0, 0] ++ ys6).set ((at_).toNat) (IntKind.u8.wrap (IntKind.u16.wrap (Int.tdiv (cks (ys5 ++ [0, 0] ++ ys6)) 256)))).set ((at_ + 1).toNat) (IntKind.u8.wrap (Int.tmod (cks (ys5 ++ [0, 0] ++ ys6)) 256))).map (Value.int .u8)⟩)]) (congrArg (fun cs_ => (22, (⟨5, 1, .slice A20 (0 + ys5.length + 2 + ys6.length) c20, 0 + ys5.length + 2 + ys6.length, cs_⟩ : Row)) :: []) (splice_ints1 (kd := .u8) (l := ((ys5 ++ [0, 0] ++ ys6).set ((at_).toNat) (IntKind.u8.wrap (IntKind.u16.wrap (Int.tdiv (cks (ys5 ++ [0, 0] ++ ys6)) 256))))) (j := ((at_ + 1).toNat)) (x := (IntKind.u8.wrap (Int.tmod (cks (ys5 ++ [0, 0] ++ ys6)) 256))) (by (try simp only [List.length_set]); omega))) ?_
            refine X.run 10 [4, 5] [] (.ex .ret) [] ⟨50, [(4, .v (.slice A20 (0 + ys5.length + 2 + ys6.length) c20)), (5, .v (.bool true))], []⟩ (by kernel_rfl) ?_
            refine doneG (.inl rfl) [.slice A20 (0 + ys5.length + 2 + ys6.length) c20, .bool true] [22] (by kernel_rfl) rfl rfl (Ge.refl _ _) ?_
            -- end 5 (FFF)
            refine ⟨fun h => by exfalso; apply h; omega, fun _ => ?_⟩
            have hn_ : 0 + ys5.length + 2 + ys6.length = b.length := by omega
            have hz_ : ys5 ++ [0, 0] ++ ys6 = (b.set at_.toNat 0).set (at_ + 1).toNat 0 := by
              rw [← hys5, ← hys6, show (at_ + 1).toNat = at_.toNat + 1 by omega, show (at_ + 2).toNat = at_.toNat + 2 by omega]
              exact set_two 0 0 (by omega)
            rw [hn_] at *
            refine ⟨_, _, rfl, by omega, ?_⟩
            rw [hz_]
            have hzb_ : isBytes ((b.set at_.toNat 0).set (at_ + 1).toNat 0) := bytes_set (bytes_set (row_bytes hb) (by omega)) (by omega)
            have hck_ := cks_bounds hzb_
            unfold filled
            rw [shr_nn hck_.1, show min 8 IntKind.u16.bits = 8 from rfl]
            generalize cks ((b.set at_.toNat 0).set (at_ + 1).toNat 0) = ck_ at *
            rw [show IntKind.u16.wrap (Int.tdiv ck_ 256) = ck_ / 2 ^ 8 from by rw [Int.tdiv_eq_ediv_of_nonneg hck_.1]; exact wu16 (by omega) (by omega), Int.tmod_eq_emod_of_nonneg hck_.1, show IntKind.u8.wrap (ck_ % 256) = IntKind.u8.wrap ck_ from by rw [u8_wrap, u8_wrap]; omega]
        · -- 5 first
          refine X.lit 27 5 1 2 [.int .u8 0, .int .u8 0] (by kernel_rfl) (fun g => by kernel_rfl) ?_
          intro A26
          refine X.back ⟨trivial, Le.refl _, rfl, ?_⟩
          refine XD.norm [1, 4, 5, 25, 27, 32] [] ⟨50, [(1, .v (.int .i64 at_)), (4, .v (.slice none 0 0)), (5, .v (.bool false)), (25, .v (.slice A5 ys5.length (c - 0))), (27, .v (.slice A26 2 2)), (32, .v (.slice A6 ys6.length (c - ((at_ + 2).toNat))))], []⟩ (by kernel_rfl) trivial ?_
          refine XD.one (i := 0) (l' := (lb 13 1967)) (oA B45 [1, 1, 0] 0) (by kernel_rfl) (by kernel_rfl) (by kernel_rfl) ?_
          refine X.lit 22 5 1 0 [] (by kernel_rfl) (fun g => by kernel_rfl) ?_
          intro A27
          refine X.back ⟨trivial, Le.refl _, rfl, ?_⟩
          refine XD.norm [1, 4, 5, 22, 25, 27, 32] [] ⟨50, [(1, .v (.int .i64 at_)), (4, .v (.slice none 0 0)), (5, .v (.bool false)), (22, .v (.slice A27 0 0)), (25, .v (.slice A5 ys5.length (c - 0))), (27, .v (.slice A26 2 2)), (32, .v (.slice A6 ys6.length (c - ((at_ + 2).toNat))))], []⟩ (by kernel_rfl) trivial ?_
          refine XD.one (i := 4) (l' := (lb 13 1983)) (oA B45 [1, 1, 0] 4) (by kernel_rfl) (by kernel_rfl) (by kernel_rfl) ?_
          refine X.appendW 22 ⟨5, 1, .slice A27 0 0, 0, []⟩ 22 1 (.int .u8 0) (x := .tmp 22) (y := .tmp 25) (n := 0) (c := 0) (m := ys5.length) (c2 := c - 0) (A := A27) (B := A5) (news := ys5.map (Value.int .u8)) (by kernel_rfl) (by kernel_rfl) (by kernel_rfl) (by kernel_rfl) (by kernel_rfl) rfl (Nat.succ_pos _) (by kernel_rfl) (.inl rfl) rfl rfl (by simp) (at_ints [(22, ⟨5, 1, .slice A27 0 0, 0, []⟩), (27, ⟨5, 1, .slice A26 2 2, 2, [.int .u8 0, .int .u8 0]⟩)] hr5) (fun _ _ e => rowAt.none hr5 e) ones_ints (by omega) (by decide) ?_
          intro A28 c28 hc28
          refine X.tellR [22, 27] (R' := [(22, ⟨5, 1, .slice A28 (0 + ys5.length) c28, 0 + ys5.length, (ys5).map (Value.int .u8)⟩), (27, ⟨5, 1, .slice A26 2 2, 2, [.int .u8 0, .int .u8 0]⟩)]) (congrArg (fun cs_ => (22, (⟨5, 1, .slice A28 (0 + ys5.length) c28, 0 + ys5.length, cs_⟩ : Row)) :: [(27, ⟨5, 1, .slice A26 2 2, 2, [.int .u8 0, .int .u8 0]⟩)]) (show [] ++ (ys5.map (Value.int .u8)) = (ys5).map (Value.int .u8) by simp)) ?_
          refine X.back ⟨trivial, Le.refl _, rfl, ?_⟩
          refine XD.norm [1, 4, 5, 26, 27, 32] [] ⟨50, [(1, .v (.int .i64 at_)), (4, .v (.slice none 0 0)), (5, .v (.bool false)), (26, .v (.slice A28 (0 + ys5.length) c28)), (27, .v (.slice A26 2 2)), (32, .v (.slice A6 ys6.length (c - ((at_ + 2).toNat))))], []⟩ (by kernel_rfl) trivial ?_
          refine XD.one (i := 6) (l' := (lb 13 2047)) (oA B45 [1, 1, 0] 6) (by kernel_rfl) (by kernel_rfl) (by kernel_rfl) ?_
          refine X.append 22 ⟨5, 1, .slice A28 (0 + ys5.length) c28, 0 + ys5.length, (ys5).map (Value.int .u8)⟩ 22 1 (.int .u8 0) (x := .tmp 26) (y := .tmp 27) (n := 0 + ys5.length) (c := c28) (m := 2) (c2 := 2) (A := A28) (B := A26) (news := [.int .u8 0, .int .u8 0]) (by kernel_rfl) (by kernel_rfl) (by kernel_rfl) (by kernel_rfl) (by kernel_rfl) rfl (Nat.succ_pos _) (by kernel_rfl) (.inl rfl) rfl rfl (by kernel_rfl) (At.of_row (i := 27) (r := ⟨5, 1, .slice A26 2 2, 2, [.int .u8 0, .int .u8 0]⟩) rfl rfl) (fun w hw e => absurd (rowSome (i := 27) (q := ⟨5, 1, .slice A26 2 2, 2, [.int .u8 0, .int .u8 0]⟩) rfl rfl (Nat.succ_pos _) w hw) (by rw [e]; decide)) (ones (by kernel_rfl)) (by omega) (by decide) ?_
          intro A29 c29 hc29
          refine X.tellR [22, 27] (R' := [(22, ⟨5, 1, .slice A29 (0 + ys5.length + 2) c29, 0 + ys5.length + 2, (ys5 ++ [0, 0]).map (Value.int .u8)⟩), (27, ⟨5, 1, .slice A26 2 2, 2, [.int .u8 0, .int .u8 0]⟩)]) (congrArg (fun cs_ => (22, (⟨5, 1, .slice A29 (0 + ys5.length + 2) c29, 0 + ys5.length + 2, cs_⟩ : Row)) :: [(27, ⟨5, 1, .slice A26 2 2, 2, [.int .u8 0, .int .u8 0]⟩)]) (show (ys5).map (Value.int .u8) ++ [.int .u8 0, .int .u8 0] = (ys5 ++ [0, 0]).map (Value.int .u8) by simp)) ?_
          refine X.back ⟨trivial, Le.refl _, rfl, ?_⟩
          refine XD.norm [1, 4, 5, 28, 32] [] ⟨50, [(1, .v (.int .i64 at_)), (4, .v (.slice none 0 0)), (5, .v (.bool false)), (28, .v (.slice A29 (0 + ys5.length + 2) c29)), (32, .v (.slice A6 ys6.length (c - ((at_ + 2).toNat))))], []⟩ (by kernel_rfl) trivial ?_
          refine XD.one (i := 11) (l' := (lb 13 4095)) (oA B45 [1, 1, 0] 11) (by kernel_rfl) (by kernel_rfl) (by kernel_rfl) ?_
          refine X.appendW 22 ⟨5, 1, .slice A29 (0 + ys5.length + 2) c29, 0 + ys5.length + 2, (ys5 ++ [0, 0]).map (Value.int .u8)⟩ 22 1 (.int .u8 0) (x := .tmp 28) (y := .tmp 32) (n := 0 + ys5.length + 2) (c := c29) (m := ys6.length) (c2 := c - ((at_ + 2).toNat)) (A := A29) (B := A6) (news := ys6.map (Value.int .u8)) (by kernel_rfl) (by kernel_rfl) (by kernel_rfl) (by kernel_rfl) (by kernel_rfl) rfl (Nat.succ_pos _) (by kernel_rfl) (.inl rfl) rfl rfl (by simp) (at_ints [(22, ⟨5, 1, .slice A29 (0 + ys5.length + 2) c29, 0 + ys5.length + 2, (ys5 ++ [0, 0]).map (Value.int .u8)⟩), (27, ⟨5, 1, .slice A26 2 2, 2, [.int .u8 0, .int .u8 0]⟩)] hr6) (fun _ _ e => rowAt.none hr6 e) ones_ints (by omega) (by decide) ?_
          intro A30 c30 hc30
          refine X.tellR [22] (R' := [(22, ⟨5, 1, .slice A30 (0 + ys5.length + 2 + ys6.length) c30, 0 + ys5.length + 2 + ys6.length, (ys5 ++ [0, 0] ++ ys6).map (Value.int .u8)⟩)]) (congrArg (fun cs_ => (22, (⟨5, 1, .slice A30 (0 + ys5.length + 2 + ys6.length) c30, 0 + ys5.length + 2 + ys6.length, cs_⟩ : Row)) :: []) (show (ys5 ++ [0, 0]).map (Value.int .u8) ++ (ys6.map (Value.int .u8)) = (ys5 ++ [0, 0] ++ ys6).map (Value.int .u8) by simp)) ?_
          refine X.back ⟨trivial, Le.refl _, rfl, ?_⟩
          refine XD.take (i := 12) (l' := (lb 13 8191)) (oA B45 [1, 1, 0] 12) (.v (.slice A30 (0 + ys5.length + 2 + ys6.length) c30)) QOk.ctxG (by kernel_rfl) (by kernel_rfl) (by kernel_rfl) (by kernel_rfl) (by kernel_rfl) ?_
          refine XD.done (by kernel_rfl) ?_
          refine X.run 4 [1, 4, 5, 6, 34] [] (.ops (aA B45 [1, 1, 1, 0]) (oA B45 [1, 1, 1, 0] 1 :: lA B45 [1, 1, 1, 0] 2)) [.seq (cA B45 [1, 1, 1, 1])] ⟨50, [(1, .v (.int .i64 at_)), (4, .v (.slice none 0 0)), (5, .v (.bool false)), (6, .v (.slice A30 (0 + ys5.length + 2 + ys6.length) c30)), (34, .v (.slice A30 (0 + ys5.length + 2 + ys6.length) c30))], []⟩ (by kernel_rfl) ?_
          refine X.capLe (i := 22) (q := ⟨5, 1, .slice A30 (0 + ys5.length + 2 + ys6.length) c30, 0 + ys5.length + 2 + ys6.length, (ys5 ++ [0, 0] ++ ys6).map (Value.int .u8)⟩) (n := 0 + ys5.length + 2 + ys6.length) (c := c30) (A := A30) rfl rfl fun hn31 hx31 => ?_
          have hl31 : (ys5 ++ [0, 0] ++ ys6).length = 0 + ys5.length + 2 + ys6.length := by simp <;> omega
          have hb31 : isBytes (ys5 ++ [0, 0] ++ ys6) := fun x hx => by
            simp only [List.mem_append, List.mem_cons, List.not_mem_nil, or_false] at hx
            rcases hx with (h_ | rfl | rfl) | h_
            · exact row_bytes hr5 x h_
            · exact ⟨by decide, by decide⟩
            · exact ⟨by decide, by decide⟩
            · exact row_bytes hr6 x h_
          refine X.callV (f := 29) (l := [.v (.slice A30 (0 + ys5.length + 2 + ys6.length) c30)]) (Q := fun v_ => v_ = .int .u16 (cks (ys5 ++ [0, 0] ++ ys6))) [.slice A30 (0 + ys5.length + 2 + ys6.length) c30] (by kernel_rfl) (by kernel_rfl) (by kernel_rfl) (fun G1_ hl_ hr_ => (show CallsG Try.prog 29 [.slice A30 (0 + ys5.length + 2 + ys6.length) c30] G1_ (fun _ v rows => v = .int .u16 (cks (ys5 ++ [0, 0] ++ ys6)) ∧ rows = []) by rw [← hl31]; exact SumRef_ok _ _ (ys5 ++ [0, 0] ++ ys6) G1_ (rowLit (hr_ 22 _ rfl) (reps_ints hb31) (by decide)) (by omega) hx31 (by omega)).mono (fun _ _ _ _ h_ => h_.1)) ?_
          rintro _ rfl
          refine X.run 10 [1, 4, 5, 6, 7, 36, 37, 40] [] (.ops (aA B45 [1, 1, 1, 1, 0]) (oA B45 [1, 1, 1, 1, 0] 5 :: lA B45 [1, 1, 1, 1, 0] 6)) [.seq (cA B45 [1, 1, 1, 1, 1])] ⟨50, [(1, .v (.int .i64 at_)), (4, .v (.slice none 0 0)), (5, .v (.bool false)), (6, .v (.slice A30 (0 + ys5.length + 2 + ys6.length) c30)), (7, .v (.int .u16 (cks (ys5 ++ [0, 0] ++ ys6)))), (36, .v (.slice A30 (0 + ys5.length + 2 + ys6.length) c30)), (37, .v (.int .i64 at_)), (40, .v (.int .u8 (IntKind.u8.wrap (IntKind.u16.wrap (Int.tdiv (cks (ys5 ++ [0, 0] ++ ys6)) 256)))))], []⟩ (by kernel_rfl) ?_
          have b32 : (0 : Int) ≤ at_ := by omega
          have b33 : at_ < ((0 + ys5.length + 2 + ys6.length : Nat) : Int) := by omega
          refine X.index (t := 22) (e := 5) (sz := 1) (A := A30) (n := 0 + ys5.length + 2 + ys6.length) (c := c30) (ki := .i64) (i := at_) (x := .tmp 36) (ix := .tmp 37) (by kernel_rfl) (by kernel_rfl) (by kernel_rfl) (by kernel_rfl) (by kernel_rfl) (by kernel_rfl) b32 b33 (rowSome (i := 22) (q := ⟨5, 1, .slice A30 (0 + ys5.length + 2 + ys6.length) c30, 0 + ys5.length + 2 + ys6.length, (ys5 ++ [0, 0] ++ ys6).map (Value.int .u8)⟩) rfl rfl (by simp; omega)) ?_
          refine X.run 0 [1, 4, 5, 6, 7, 40, 41] [] (.ops (aA B45 [1, 1, 1, 1, 0]) (oA B45 [1, 1, 1, 1, 0] 6 :: lA B45 [1, 1, 1, 1, 0] 7)) [.seq (cA B45 [1, 1, 1, 1, 1])] ⟨50, [(1, .v (.int .i64 at_)), (4, .v (.slice none 0 0)), (5, .v (.bool false)), (6, .v (.slice A30 (0 + ys5.length + 2 + ys6.length) c30)), (7, .v (.int .u16 (cks (ys5 ++ [0, 0] ++ ys6)))), (40, .v (.int .u8 (IntKind.u8.wrap (IntKind.u16.wrap (Int.tdiv (cks (ys5 ++ [0, 0] ++ ys6)) 256))))), (41, .v (elt A30 ((at_).toNat * 1)))], []⟩ (by kernel_rfl) ?_
          refine X.storeElem (i := 22) (t := 5) (j := (at_).toNat * 1) (n := 0 + ys5.length + 2 + ys6.length) (c := c30) (q := ⟨5, 1, .slice A30 (0 + ys5.length + 2 + ys6.length) c30, 0 + ys5.length + 2 + ys6.length, (ys5 ++ [0, 0] ++ ys6).map (Value.int .u8)⟩) (A := A30) (x := .tmp 41) (y := .tmp 40) (z := .int .u8 (IntKind.u8.wrap (IntKind.u16.wrap (Int.tdiv (cks (ys5 ++ [0, 0] ++ ys6)) 256)))) (by kernel_rfl) (by kernel_rfl) (by kernel_rfl) rfl rfl (by kernel_rfl) (by show _ + 1 ≤ _; simp; omega) (by kernel_rfl) (Nat.succ_pos _) (by kernel_rfl) ?_
          refine X.tellR [22] (R' := [(22, ⟨5, 1, .slice A30 (0 + ys5.length + 2 + ys6.length) c30, 0 + ys5.length + 2 + ys6.length, ((ys5 ++ [0, 0] ++ ys6).set ((at_).toNat) (IntKind.u8.wrap (IntKind.u16.wrap (Int.tdiv (cks (ys5 ++ [0, 0] ++ ys6)) 256)))).map (Value.int .u8)⟩)]) (congrArg (fun cs_ => (22, (⟨5, 1, .slice A30 (0 + ys5.length + 2 + ys6.length) c30, 0 + ys5.length + 2 + ys6.length, cs_⟩ : Row)) :: []) (splice_ints1 (kd := .u8) (l := (ys5 ++ [0, 0] ++ ys6)) (j := ((at_).toNat)) (x := (IntKind.u8.wrap (IntKind.u16.wrap (Int.tdiv (cks (ys5 ++ [0, 0] ++ ys6)) 256)))) (by (try simp only [List.length_set]); omega))) ?_
          refine X.run 7 [4, 5, 6, 7, 42, 44] [] (.ops (aA B45 [1, 1, 1, 1, 1, 0]) (oA B45 [1, 1, 1, 1, 1, 0] 3 :: lA B45 [1, 1, 1, 1, 1, 0] 4)) [.seq (cA B45 [1, 1, 1, 1, 1, 1])] ⟨50, [(4, .v (.slice none 0 0)), (5, .v (.bool false)), (6, .v (.slice A30 (0 + ys5.length + 2 + ys6.length) c30)), (7, .v (.int .u16 (cks (ys5 ++ [0, 0] ++ ys6)))), (42, .v (.slice A30 (0 + ys5.length + 2 + ys6.length) c30)), (44, .v (.int .i64 (IntKind.i64.wrap (at_ + 1))))], []⟩ (by kernel_rfl) ?_
          refine X.known 44 (y := .v (.int .i64 (at_ + 1))) rfl (congrArg (fun z_ => AV.v (.int .i64 z_)) (wi64 (by omega) (by omega))) ?_
          refine X.run 3 [4, 5, 6, 42, 44, 47] [] (.ops (aA B45 [1, 1, 1, 1, 1, 0]) (oA B45 [1, 1, 1, 1, 1, 0] 6 :: lA B45 [1, 1, 1, 1, 1, 0] 7)) [.seq (cA B45 [1, 1, 1, 1, 1, 1])] ⟨50, [(4, .v (.slice none 0 0)), (5, .v (.bool false)), (6, .v (.slice A30 (0 + ys5.length + 2 + ys6.length) c30)), (42, .v (.slice A30 (0 + ys5.length + 2 + ys6.length) c30)), (44, .v (.int .i64 (at_ + 1))), (47, .v (.int .u8 (IntKind.u8.wrap (Int.tmod (cks (ys5 ++ [0, 0] ++ ys6)) 256))))], []⟩ (by kernel_rfl) ?_
          have b34 : (0 : Int) ≤ at_ + 1 := by omega
          have b35 : at_ + 1 < ((0 + ys5.length + 2 + ys6.length : Nat) : Int) := by omega
          refine X.index (t := 22) (e := 5) (sz := 1) (A := A30) (n := 0 + ys5.length + 2 + ys6.length) (c := c30) (ki := .i64) (i := at_ + 1) (x := .tmp 42) (ix := .tmp 44) (by kernel_rfl) (by kernel_rfl) (by kernel_rfl) (by kernel_rfl) (by kernel_rfl) (by kernel_rfl) b34 b35 (rowSome (i := 22) (q := ⟨5, 1, .slice A30 (0 + ys5.length + 2 + ys6.length) c30, 0 + ys5.length + 2 + ys6.length, ((ys5 ++ [0, 0] ++ ys6).set ((at_).toNat) (IntKind.u8.wrap (IntKind.u16.wrap (Int.tdiv (cks (ys5 ++ [0, 0] ++ ys6)) 256)))).map (Value.int .u8)⟩) rfl rfl (by simp; omega)) ?_
          refine X.run 0 [4, 5, 6, 47, 48] [] (.ops (aA B45 [1, 1, 1, 1, 1, 0]) (oA B45 [1, 1, 1, 1, 1, 0] 7 :: lA B45 [1, 1, 1, 1, 1, 0] 8)) [.seq (cA B45 [1, 1, 1, 1, 1, 1])] ⟨50, [(4, .v (.slice none 0 0)), (5, .v (.bool false)), (6, .v (.slice A30 (0 + ys5.length + 2 + ys6.length) c30)), (47, .v (.int .u8 (IntKind.u8.wrap (Int.tmod (cks (ys5 ++ [0, 0] ++ ys6)) 256)))), (48, .v (elt A30 ((at_ + 1).toNat * 1)))], []⟩ (by kernel_rfl) ?_
          refine X.storeElem (i := 22) (t := 5) (j := (at_ + 1).toNat * 1) (n := 0 + ys5.length + 2 + ys6.length) (c := c30) (q := ⟨5, 1, .slice A30 (0 + ys5.length + 2 + ys6.length) c30, 0 + ys5.length + 2 + ys6.length, ((ys5 ++ [0, 0] ++ ys6).set ((at_).toNat) (IntKind.u8.wrap (IntKind.u16.wrap (Int.tdiv (cks (ys5 ++ [0, 0] ++ ys6)) 256)))).map (Value.int .u8)⟩) (A := A30) (x := .tmp 48) (y := .tmp 47) (z := .int .u8 (IntKind.u8.wrap (Int.tmod (cks (ys5 ++ [0, 0] ++ ys6)) 256))) (by kernel_rfl) (by kernel_rfl) (by kernel_rfl) rfl rfl (by kernel_rfl) (by show _ + 1 ≤ _; simp; omega) (by kernel_rfl) (Nat.succ_pos _) (by kernel_rfl) ?_
          refine X.tellR [22] (R' := [(22, ⟨5, 1, .slice A30 (0 + ys5.length + 2 + ys6.length) c30, 0 + ys5.length + 2 + ys6.length, (((ys5 ++ [0, 0] ++ ys6).set ((at_).toNat) (IntKind.u8.wrap (IntKind.u16.wrap (Int.tdiv (cks (ys5 ++ [0, 0] ++ ys6)) 256)))).set ((at_ + 1).toNat) (IntKind.u8.wrap (Int.tmod (cks (ys5 ++ [0, 0] ++ ys6)) 256))).map (Value.int .u8)⟩)]) (congrArg (fun cs_ => (22, (⟨5, 1, .slice A30 (0 + ys5.length + 2 + ys6.length) c30, 0 + ys5.length + 2 + ys6.length, cs_⟩ : Row)) :: []) (splice_ints1 (kd := .u8) (l := ((ys5 ++ [0, 0] ++ ys6).set ((at_).toNat) (IntKind.u8.wrap (IntKind.u16.wrap (Int.tdiv (cks (ys5 ++ [0, 0] ++ ys6)) 256))))) (j := ((at_ + 1).toNat)) (x := (IntKind.u8.wrap (Int.tmod (cks (ys5 ++ [0, 0] ++ ys6)) 256))) (by (try simp only [List.length_set]); omega))) ?_
          refine X.run 10 [4, 5] [] (.ex .ret) [] ⟨50, [(4, .v (.slice A30 (0 + ys5.length + 2 + ys6.length) c30)), (5, .v (.bool true))], []⟩ (by kernel_rfl) ?_
          refine doneG (.inl rfl) [.slice A30 (0 + ys5.length + 2 + ys6.length) c30, .bool true] [22] (by kernel_rfl) rfl rfl (Ge.refl _ _) ?_
          -- end 6 (FFF)
          refine ⟨fun h => by exfalso; apply h; omega, fun _ => ?_⟩
          have hn_ : 0 + ys5.length + 2 + ys6.length = b.length := by omega
          have hz_ : ys5 ++ [0, 0] ++ ys6 = (b.set at_.toNat 0).set (at_ + 1).toNat 0 := by
            rw [← hys5, ← hys6, show (at_ + 1).toNat = at_.toNat + 1 by omega, show (at_ + 2).toNat = at_.toNat + 2 by omega]
            exact set_two 0 0 (by omega)
          rw [hn_] at *
          refine ⟨_, _, rfl, by omega, ?_⟩
          rw [hz_]
          have hzb_ : isBytes ((b.set at_.toNat 0).set (at_ + 1).toNat 0) := bytes_set (bytes_set (row_bytes hb) (by omega)) (by omega)
          have hck_ := cks_bounds hzb_
          unfold filled
          rw [shr_nn hck_.1, show min 8 IntKind.u16.bits = 8 from rfl]
          generalize cks ((b.set at_.toNat 0).set (at_ + 1).toNat 0) = ck_ at *
          rw [show IntKind.u16.wrap (Int.tdiv ck_ 256) = ck_ / 2 ^ 8 from by rw [Int.tdiv_eq_ediv_of_nonneg hck_.1]; exact wu16 (by omega) (by omega), Int.tmod_eq_emod_of_nonneg hck_.1, show IntKind.u8.wrap (ck_ % 256) = IntKind.u8.wrap ck_ from by rw [u8_wrap, u8_wrap]; omega]
end Go.Proofs.YtjgpdbkkpomhjaaX
