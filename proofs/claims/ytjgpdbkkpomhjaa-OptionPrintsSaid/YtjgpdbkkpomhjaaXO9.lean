/- leatref12.Print -/
import Derived.Test.YtjgpdbkkpomhjaaProg
import Derived.KernelRfl
import Derived.Test.YtjgpdbkkpomhjaaXO8
namespace Go.Proofs.YtjgpdbkkpomhjaaX
open Go.RowKit
set_option linter.unusedVariables false
set_option linter.unusedSimpArgs false
set_option maxRecDepth 100000
/-- leat/leatref12.Print -/
noncomputable def B50 : Code := bodyOf Try.f50
set_option maxHeartbeats 4000000 in
theorem rPrint_ok (A : Option Addr) (c : Nat) (xs : List Opt) (G : Mem) (hr : rowAt optD G A xs) (hle : xs.length ≤ c) (hmx : c ≤ maxLen) (hlen : xs.length ≤ 12) (hq : ∀ o ∈ xs, o.2.1.length ≤ 12 ∧ o.2.2.size ≤ 60) : CallsG Try.prog 50 [.slice A xs.length c] G (fun _ v rows => ∃ A' c', v = .tuple #[.slice A' (printO xs).length c', .int .i64 (errO xs)] ∧ rows = [⟨5, 1, .slice A' (printO xs).length c', (printO xs).length, (printO xs).map (Value.int .u8)⟩]) := by
  simp only [maxLen] at hmx
  refine CallsG.enter Try.func50 rfl rfl ?_
  intro w
  refine X.run 18 [0, 2, 3, 4, 5] [] (.code (cA B50 [1, 1, 0, 1, 0])) [.blk 0, .seq (cA B50 [1, 1, 1])] ⟨115, [(0, .v (.slice A xs.length c)), (2, .v (.slice none 0 0)), (3, .v (.int .i64 0)), (4, .v (.int .i64 0)), (5, .v (.int .i64 0))], []⟩ (by kernel_rfl) ?_
  refine X.run 0 [0, 4, 5] [] (.code (cA B50 [1, 1, 0, 1, 0])) [.blk 0, .seq (cA B50 [1, 1, 1])] ⟨115, [(0, .v (.slice A xs.length c)), (4, .v (.int .i64 0)), (5, .v (.int .i64 0))], []⟩ (by kernel_rfl) ?_
  refine X.loopJ (fun m s R' G' => ∃ (mm i : Int), s = ⟨115, [(0, .v (.slice A xs.length c)), (4, .v (.int .i64 mm)), (5, .v (.int .i64 i))], []⟩ ∧ R' = [] ∧ Ge G w.heap.size G' ∧ (0 ≤ i ∧ i ≤ (xs.length : Int) ∧ chk (xs.take i.toNat) (xs.drop i.toNat) = chk [] xs ∧ mm = sumO (xs.take i.toNat) ∧ mm ≤ i * 74) ∧ m = ((xs.length : Int) - i).toNat) _ ⟨0, 0, rfl, rfl, Ge.refl _ _, ⟨by omega, by omega, by simp, by simp [sumO], by omega⟩, rfl⟩ ?_
  rintro m1 s1 R1 G1 ⟨mm, i, rfl, rfl, hG1, hF1, rfl⟩ J1 hJ1
  replace hr := hr.mono hG1.le
  obtain ⟨hi0, hi1, hck, hm, hmb⟩ := hF1
  have hsn_ := sumO_nn (xs.take i.toNat)
  refine X.run 9 [0, 4, 5, 13] [] (.code (cA B50 [1, 1, 0, 1, 0, 0, 0, 1])) [.seq (cA B50 [1, 1, 0, 1, 0, 0, 1]), .loop J1, .blk 0, .seq (cA B50 [1, 1, 1])] ⟨115, [(0, .v (.slice A xs.length c)), (4, .v (.int .i64 mm)), (5, .v (.int .i64 i)), (13, .v (.bool (decide (i < ((xs.length : Nat) : Int)))))], []⟩ (by kernel_rfl) ?_
  refine X.split 13 rfl (fun h2 => ?_) (fun h2 => ?_)
  · -- slot 13: decide (i < ((xs.length : Nat) : Int)) is True
    replace h2 : i < ((xs.length : Nat) : Int) := of_decide_eq_true h2
    refine X.run 10 [0, 4, 5, 16, 17] [] (.ops (aA B50 [1, 1, 0, 1, 0, 0, 1, 0, 0, 0, 0]) (oA B50 [1, 1, 0, 1, 0, 0, 1, 0, 0, 0, 0] 2 :: lA B50 [1, 1, 0, 1, 0, 0, 1, 0, 0, 0, 0] 3)) [.seq (cA B50 [1, 1, 0, 1, 0, 0, 1, 0, 0, 0, 1]), .seq (cA B50 [1, 1, 0, 1, 0, 0, 1, 0, 0, 1]), .blk 1, .seq (cA B50 [1, 1, 0, 1, 0, 0, 1, 1]), .loop J1, .blk 0, .seq (cA B50 [1, 1, 1])] ⟨115, [(0, .v (.slice A xs.length c)), (4, .v (.int .i64 mm)), (5, .v (.int .i64 i)), (16, .v (.slice A xs.length c)), (17, .v (.int .i64 i))], []⟩ (by kernel_rfl) ?_
    have b3 : (0 : Int) ≤ i := by omega
    have b4 : i < ((xs.length : Nat) : Int) := by omega
    refine X.index (t := 59) (e := 65) (sz := 3) (A := A) (n := xs.length) (c := c) (ki := .i64) (i := i) (x := .tmp 16) (ix := .tmp 17) (by kernel_rfl) (by kernel_rfl) (by kernel_rfl) (by kernel_rfl) (by kernel_rfl) (by kernel_rfl) b3 b4 (fun _ _ => rowAt.so hr (by omega)) ?_
    obtain ⟨A5, c5, at5, kr5, le5, mx5, hr5⟩ := At.opt [] hr ((i).toNat) (by omega)
    simp only [IntKind.lo, IntKind.hi, maxLen] at kr5 mx5
    refine X.run 0 [0, 4, 5, 18] [] (.ops (aA B50 [1, 1, 0, 1, 0, 0, 1, 0, 0, 0, 0]) (oA B50 [1, 1, 0, 1, 0, 0, 1, 0, 0, 0, 0] 3 :: lA B50 [1, 1, 0, 1, 0, 0, 1, 0, 0, 0, 0] 4)) [.seq (cA B50 [1, 1, 0, 1, 0, 0, 1, 0, 0, 0, 1]), .seq (cA B50 [1, 1, 0, 1, 0, 0, 1, 0, 0, 1]), .blk 1, .seq (cA B50 [1, 1, 0, 1, 0, 0, 1, 1]), .loop J1, .blk 0, .seq (cA B50 [1, 1, 1])] ⟨115, [(0, .v (.slice A xs.length c)), (4, .v (.int .i64 mm)), (5, .v (.int .i64 i)), (18, .v (elt A ((i).toNat * 3)))], []⟩ (by kernel_rfl) ?_
    refine X.load (t := 65) (A := A) (j := (i).toNat * 3) (x := .tmp 18) (z := .agg #[.int .i64 ((xs.getD ((i).toNat) opt0).1), .slice A5 ((xs.getD ((i).toNat) opt0).2.1.length) c5, .string ((xs.getD ((i).toNat) opt0).2.2)]) [.int .i64 ((xs.getD ((i).toNat) opt0).1), .slice A5 ((xs.getD ((i).toNat) opt0).2.1.length) c5, .string ((xs.getD ((i).toNat) opt0).2.2)] (by kernel_rfl) (by kernel_rfl) at5 (by kernel_rfl) (by kernel_rfl) ?_
    refine X.run 0 [0, 4, 5, 19] [] (.ops (aA B50 [1, 1, 0, 1, 0, 0, 1, 0, 0, 0, 0]) (oA B50 [1, 1, 0, 1, 0, 0, 1, 0, 0, 0, 0] 4 :: lA B50 [1, 1, 0, 1, 0, 0, 1, 0, 0, 0, 0] 5)) [.seq (cA B50 [1, 1, 0, 1, 0, 0, 1, 0, 0, 0, 1]), .seq (cA B50 [1, 1, 0, 1, 0, 0, 1, 0, 0, 1]), .blk 1, .seq (cA B50 [1, 1, 0, 1, 0, 0, 1, 1]), .loop J1, .blk 0, .seq (cA B50 [1, 1, 1])] ⟨115, [(0, .v (.slice A xs.length c)), (4, .v (.int .i64 mm)), (5, .v (.int .i64 i)), (19, .v (.agg #[.int .i64 ((xs.getD ((i).toNat) opt0).1), .slice A5 ((xs.getD ((i).toNat) opt0).2.1.length) c5, .string ((xs.getD ((i).toNat) opt0).2.2)]))], []⟩ (by kernel_rfl) ?_
    refine X.callG (f := 110) (l := [.v (.agg #[.int .i64 ((xs.getD ((i).toNat) opt0).1), .slice A5 ((xs.getD ((i).toNat) opt0).2.1.length) c5, .string ((xs.getD ((i).toNat) opt0).2.2)])]) [.agg #[.int .i64 ((xs.getD ((i).toNat) opt0).1), .slice A5 ((xs.getD ((i).toNat) opt0).2.1.length) c5, .string ((xs.getD ((i).toNat) opt0).2.2)]] 0 (by kernel_rfl) (by kernel_rfl) (by kernel_rfl) (rfine_ok ((xs.getD ((i).toNat) opt0).1) A5 c5 ((xs.getD ((i).toNat) opt0).2.1) ((xs.getD ((i).toNat) opt0).2.2) _ hr5 le5 mx5) ?_
    rintro v6 G6 rows6 hG6 ⟨rfl, rfl⟩
    replace hr := hr.mono hG6.le
    replace hr5 := hr5.mono hG6.le
    refine X.run 3 [0, 4, 5, 21] [] (.code (cA B50 [1, 1, 0, 1, 0, 0, 1, 0, 0, 0, 1])) [.seq (cA B50 [1, 1, 0, 1, 0, 0, 1, 0, 0, 1]), .blk 1, .seq (cA B50 [1, 1, 0, 1, 0, 0, 1, 1]), .loop J1, .blk 0, .seq (cA B50 [1, 1, 1])] ⟨115, [(0, .v (.slice A xs.length c)), (4, .v (.int .i64 mm)), (5, .v (.int .i64 i)), (21, .v (.bool (!(fineB ((xs.getD ((i).toNat) opt0).1, (xs.getD ((i).toNat) opt0).2.1, (xs.getD ((i).toNat) opt0).2.2)))))], []⟩ (by kernel_rfl) ?_
    refine X.split 21 rfl (fun h7 => ?_) (fun h7 => ?_)
    · -- slot 21: !(fineB ((xs.getD ((i).toNat) opt0).1, (xs.getD ((i).toNat) opt0).2.1, (xs.getD ((i).toNat) opt0).2.2)) is True
      replace h7 : (fineB ((xs.getD ((i).toNat) opt0).1, (xs.getD ((i).toNat) opt0).2.1, (xs.getD ((i).toNat) opt0).2.2)) = false := by simpa using h7
      refine X.run 14 [2, 3] [] (.ex .ret) [] ⟨115, [(2, .v (.slice none 0 0)), (3, .v (.int .i64 2))], []⟩ (by kernel_rfl) ?_
      refine X.nilRow 900 5 1 rfl ?_
      refine doneG (.inl rfl) [.slice none 0 0, .int .i64 2] [900] (by kernel_rfl) rfl rfl ((hG1.trans hG6)) ?_
      -- end 1 (TT)
      have he_ : errO xs = 2 := errO_chk (by rw [← hck]; exact chk_bad (by omega) (by assumption)) (by decide)
      rw [printO_no (by rw [he_]; decide), he_]
      exact ⟨none, 0, rfl, rfl⟩
    · -- slot 21: !(fineB ((xs.getD ((i).toNat) opt0).1, (xs.getD ((i).toNat) opt0).2.1, (xs.getD ((i).toNat) opt0).2.2)) is False
      replace h7 : (fineB ((xs.getD ((i).toNat) opt0).1, (xs.getD ((i).toNat) opt0).2.1, (xs.getD ((i).toNat) opt0).2.2)) = true := by simpa using h7
      have hz_ := fine_prod (o := (xs.getD (i).toNat opt0)) (by assumption)
      have hqy_ := hq (xs.getD (i).toNat opt0) (getD_mem (by omega))
      refine X.run 5 [0, 4, 5] [] (.code (cA B50 [1, 1, 0, 1, 0, 0, 1, 0, 0, 1, 0, 0])) [.seq (cA B50 [1, 1, 0, 1, 0, 0, 1, 0, 0, 1, 0, 1]), .seq (cA B50 [1, 1, 0, 1, 0, 0, 1, 0, 0, 1, 1]), .blk 1, .seq (cA B50 [1, 1, 0, 1, 0, 0, 1, 1]), .loop J1, .blk 0, .seq (cA B50 [1, 1, 1])] ⟨115, [(0, .v (.slice A xs.length c)), (4, .v (.int .i64 mm)), (5, .v (.int .i64 i))], []⟩ (by kernel_rfl) ?_
      have hr_d8 := hr
      have hr5_d8 := hr5
      refine XD.open (id := 7) (arr := aA B50 [1, 1, 0, 1, 0, 0, 1, 0, 0, 1, 0, 0]) 9 [] [] [] (by kernel_rfl) (by kernel_rfl) (by kernel_rfl) (by kernel_rfl) (by kernel_rfl) trivial (by simp) rfl (fun ρ0 => ?_)
      refine XD.take (i := 0) (l' := (lb 9 1)) (oA B50 [1, 1, 0, 1, 0, 0, 1, 0, 0, 1, 0, 0] 0) (.v (.slice A xs.length c)) QOk.ctxG (by kernel_rfl) (by kernel_rfl) (by kernel_rfl) (by kernel_rfl) (by kernel_rfl) ?_
      refine XD.take (i := 1) (l' := (lb 9 3)) (oA B50 [1, 1, 0, 1, 0, 0, 1, 0, 0, 1, 0, 0] 1) (.v (.int .i64 i)) QOk.ctxG (by kernel_rfl) (by kernel_rfl) (by kernel_rfl) (by kernel_rfl) (by kernel_rfl) ?_
      have hlo9 : 0 ≤ (i).toNat := by omega
      have hhi9 : (i).toNat ≤ xs.length := by omega
      refine XD.cut (i := 2) (l' := (lb 9 7)) (o := (oA B50 [1, 1, 0, 1, 0, 0, 1, 0, 0, 1, 0, 0] 2)) (t := 59) (e := 65) (sz := 3) (n := xs.length) (c := c) (A := A) (x := .tmp 22) (l0 := none) (h := (some (.tmp 23))) (lv := none) (hv := (some (.int .i64 i))) 0 ((i).toNat) QOk.ctxG (by kernel_rfl) (by kernel_rfl) (by kernel_rfl) (by kernel_rfl) (by kernel_rfl) (by kernel_rfl) (by kernel_rfl) (by kernel_rfl) (by kernel_rfl) (rfl) (⟨_, _, rfl, by omega, rfl⟩) hlo9 (Nat.le_trans hhi9 hle) (by kernel_rfl) ?_
      obtain ⟨A9, hA9⟩ : ∃ A_, cutA A c 0 3 = A_ := ⟨_, rfl⟩
      obtain ⟨ys9, hys9⟩ : ∃ l_, (xs.take ((i).toNat)).drop 0 = l_ := ⟨_, rfl⟩
      have hr9 : rowAt optD G6 (cutA A c 0 3) ((xs.take ((i).toNat)).drop 0) := rowAt_cut hr hlo9 hhi9 hle
      have hl9 : ((i).toNat) - 0 = ys9.length := by rw [← hys9, List.length_drop, List.length_take]; omega
      have hc9 : ys9.length ≤ c - 0 := by omega
      have hm9 : c - 0 ≤ maxLen := Nat.le_trans (Nat.sub_le _ _) hmx
      rw [hys9, show cutA A c 0 _ = A9 from hA9] at hr9
      rw [hA9, hl9]
      refine XD.take (i := 3) (l' := (lb 9 15)) (oA B50 [1, 1, 0, 1, 0, 0, 1, 0, 0, 1, 0, 0] 3) (.v (.slice A xs.length c)) QOk.ctxG (by kernel_rfl) (by kernel_rfl) (by kernel_rfl) (by kernel_rfl) (by kernel_rfl) ?_
      refine XD.take (i := 4) (l' := (lb 9 31)) (oA B50 [1, 1, 0, 1, 0, 0, 1, 0, 0, 1, 0, 0] 4) (.v (.int .i64 i)) QOk.ctxG (by kernel_rfl) (by kernel_rfl) (by kernel_rfl) (by kernel_rfl) (by kernel_rfl) ?_
      have b10 : (0 : Int) ≤ i := by omega
      have b11 : i < ((xs.length : Nat) : Int) := by omega
      obtain ⟨A12, c12, at12, kr12, le12, mx12, hr12⟩ := At.opt [] hr_d8 ((i).toNat) (by omega)
      simp only [IntKind.lo, IntKind.hi, maxLen] at kr12 mx12
      refine XD.index (i := 5) (l' := (lb 9 63)) (o := (oA B50 [1, 1, 0, 1, 0, 0, 1, 0, 0, 1, 0, 0] 5)) (t := 59) (e := 65) (sz := 3) (A := A) (n := xs.length) (c := c) (ki := .i64) (j := i) (x := .tmp 25) (ix := .tmp 26) QOk.ctxG (by kernel_rfl) (by kernel_rfl) (by kernel_rfl) (by kernel_rfl) (by kernel_rfl) (by kernel_rfl) (by kernel_rfl) (by kernel_rfl) b10 b11 (fun _ _ => rowAt.so hr_d8 (by omega)) (by kernel_rfl) ?_
      refine XD.field (i := 6) (l' := (lb 9 127)) (o := (oA B50 [1, 1, 0, 1, 0, 0, 1, 0, 0, 1, 0, 0] 6)) (t := 65) (f := 0) (n := 0) (A := A) (j := (i).toNat * 3) (x := .tmp 27) QOk.ctxG (by kernel_rfl) (by kernel_rfl) (by kernel_rfl) (by kernel_rfl) (by kernel_rfl) (by kernel_rfl) (by kernel_rfl) ?_
      refine XD.load (i := 7) (l' := (lb 9 255)) (o := (oA B50 [1, 1, 0, 1, 0, 0, 1, 0, 0, 1, 0, 0] 7)) (t := 3) (A := A) (j := (i).toNat * 3 + 0) (x := .tmp 28) (z := .int .i64 ((xs.getD ((i).toNat) opt0).1)) [.int .i64 ((xs.getD ((i).toNat) opt0).1)] QOk.ctxG (by kernel_rfl) (by kernel_rfl) (by kernel_rfl) (by kernel_rfl) (by kernel_rfl) (at12.part 0 1) (by kernel_rfl) (by kernel_rfl) ?_
      refine XD.norm [0, 4, 5, 24, 29] [] ⟨115, [(0, .v (.slice A xs.length c)), (4, .v (.int .i64 mm)), (5, .v (.int .i64 i)), (24, .v (.slice A9 ys9.length (c - 0))), (29, .v (.int .i64 ((xs.getD ((i).toNat) opt0).1)))], []⟩ (by kernel_rfl) trivial ?_
      refine XD.one (i := 8) (l' := (lb 9 511)) (oA B50 [1, 1, 0, 1, 0, 0, 1, 0, 0, 1, 0, 0] 8) (by kernel_rfl) (by kernel_rfl) (by kernel_rfl) ?_
      refine X.callG (f := 111) (l := [.v (.slice A9 ys9.length (c - 0)), .v (.int .i64 ((xs.getD ((i).toNat) opt0).1))]) [.slice A9 ys9.length (c - 0), .int .i64 ((xs.getD ((i).toNat) opt0).1)] 0 (by kernel_rfl) (by kernel_rfl) (by kernel_rfl) (rHad_ok A9 (c - 0) ys9 ((xs.getD ((i).toNat) opt0).1) _ hr9 hc9 hm9) ?_
      rintro v13 G13 rows13 hG13 ⟨rfl, rfl⟩
      replace hr := hr.mono hG13.le
      replace hr5 := hr5.mono hG13.le
      replace hr9 := hr9.mono hG13.le
      replace hr12 := hr12.mono hG13.le
      refine X.back ⟨trivial, hG13.le, rfl, ?_⟩
      refine XD.done (by kernel_rfl) ?_
      refine X.run 1 [0, 4, 5, 30] [] (.code (cA B50 [1, 1, 0, 1, 0, 0, 1, 0, 0, 1, 0, 1])) [.seq (cA B50 [1, 1, 0, 1, 0, 0, 1, 0, 0, 1, 1]), .blk 1, .seq (cA B50 [1, 1, 0, 1, 0, 0, 1, 1]), .loop J1, .blk 0, .seq (cA B50 [1, 1, 1])] ⟨115, [(0, .v (.slice A xs.length c)), (4, .v (.int .i64 mm)), (5, .v (.int .i64 i)), (30, .v (.bool (hadB ys9 ((xs.getD ((i).toNat) opt0).1))))], []⟩ (by kernel_rfl) ?_
      refine X.split 30 rfl (fun h14 => ?_) (fun h14 => ?_)
      · -- slot 30: hadB ys9 ((xs.getD ((i).toNat) opt0).1) is True
        refine X.run 14 [2, 3] [] (.ex .ret) [] ⟨115, [(2, .v (.slice none 0 0)), (3, .v (.int .i64 5))], []⟩ (by kernel_rfl) ?_
        refine X.nilRow 900 5 1 rfl ?_
        have hh_ : hadB ys9 (xs.getD (i).toNat opt0).1 = true := by assumption
        rw [← hys9] at hh_
        refine doneG (.inl rfl) [.slice none 0 0, .int .i64 5] [900] (by kernel_rfl) rfl rfl (((hG1.trans hG6).trans hG13)) ?_
        -- end 2 (TFT)
        have he_ : errO xs = 5 := errO_chk (by rw [← hck]; exact chk_had (by omega) (by assumption) hh_) (by decide)
        rw [printO_no (by rw [he_]; decide), he_]
        exact ⟨none, 0, rfl, rfl⟩
      · -- slot 30: hadB ys9 ((xs.getD ((i).toNat) opt0).1) is False
        refine X.run 3 [0, 4, 5] [] (.code (cA B50 [1, 1, 0, 1, 0, 0, 1, 0, 0, 1, 1])) [.blk 1, .seq (cA B50 [1, 1, 0, 1, 0, 0, 1, 1]), .loop J1, .blk 0, .seq (cA B50 [1, 1, 1])] ⟨115, [(0, .v (.slice A xs.length c)), (4, .v (.int .i64 mm)), (5, .v (.int .i64 i))], []⟩ (by kernel_rfl) ?_
        have hr_d15 := hr
        have hr5_d15 := hr5
        have hr9_d15 := hr9
        have hr12_d15 := hr12
        refine XD.open (id := 9) (arr := aA B50 [1, 1, 0, 1, 0, 0, 1, 0, 0, 1, 1]) 24 [] [] [] (by kernel_rfl) (by kernel_rfl) (by kernel_rfl) (by kernel_rfl) (by kernel_rfl) trivial (by simp) rfl (fun ρ0 => ?_)
        refine XD.take (i := 0) (l' := (lb 24 1)) (oA B50 [1, 1, 0, 1, 0, 0, 1, 0, 0, 1, 1] 0) (.v (.int .i64 mm)) QOk.ctxG (by kernel_rfl) (by kernel_rfl) (by kernel_rfl) (by kernel_rfl) (by kernel_rfl) ?_
        refine XD.take (i := 1) (l' := (lb 24 3)) (oA B50 [1, 1, 0, 1, 0, 0, 1, 0, 0, 1, 1] 1) (.v (.int .i64 (IntKind.i64.wrap (mm + 2)))) QOk.ctxG (by kernel_rfl) (by kernel_rfl) (by kernel_rfl) (by kernel_rfl) (by kernel_rfl) ?_
        refine XD.known 32 (y := .v (.int .i64 (mm + 2))) rfl (congrArg (fun z_ => AV.v (.int .i64 z_)) (wi64 (by omega) (by omega))) ?_
        refine XD.take (i := 2) (l' := (lb 24 7)) (oA B50 [1, 1, 0, 1, 0, 0, 1, 0, 0, 1, 1] 2) (.v (.slice A xs.length c)) QOk.ctxG (by kernel_rfl) (by kernel_rfl) (by kernel_rfl) (by kernel_rfl) (by kernel_rfl) ?_
        refine XD.take (i := 3) (l' := (lb 24 15)) (oA B50 [1, 1, 0, 1, 0, 0, 1, 0, 0, 1, 1] 3) (.v (.int .i64 i)) QOk.ctxG (by kernel_rfl) (by kernel_rfl) (by kernel_rfl) (by kernel_rfl) (by kernel_rfl) ?_
        have b16 : (0 : Int) ≤ i := by omega
        have b17 : i < ((xs.length : Nat) : Int) := by omega
        obtain ⟨A18, c18, at18, kr18, le18, mx18, hr18⟩ := At.opt [] hr_d15 ((i).toNat) (by omega)
        simp only [IntKind.lo, IntKind.hi, maxLen] at kr18 mx18
        refine XD.index (i := 4) (l' := (lb 24 31)) (o := (oA B50 [1, 1, 0, 1, 0, 0, 1, 0, 0, 1, 1] 4)) (t := 59) (e := 65) (sz := 3) (A := A) (n := xs.length) (c := c) (ki := .i64) (j := i) (x := .tmp 33) (ix := .tmp 34) QOk.ctxG (by kernel_rfl) (by kernel_rfl) (by kernel_rfl) (by kernel_rfl) (by kernel_rfl) (by kernel_rfl) (by kernel_rfl) (by kernel_rfl) b16 b17 (fun _ _ => rowAt.so hr_d15 (by omega)) (by kernel_rfl) ?_
        refine XD.field (i := 5) (l' := (lb 24 63)) (o := (oA B50 [1, 1, 0, 1, 0, 0, 1, 0, 0, 1, 1] 5)) (t := 65) (f := 1) (n := 1) (A := A) (j := (i).toNat * 3) (x := .tmp 35) QOk.ctxG (by kernel_rfl) (by kernel_rfl) (by kernel_rfl) (by kernel_rfl) (by kernel_rfl) (by kernel_rfl) (by kernel_rfl) ?_
        refine XD.load (i := 6) (l' := (lb 24 127)) (o := (oA B50 [1, 1, 0, 1, 0, 0, 1, 0, 0, 1, 1] 6)) (t := 63) (A := A) (j := (i).toNat * 3 + 1) (x := .tmp 36) (z := .slice A18 ((xs.getD ((i).toNat) opt0).2.1.length) c18) [.slice A18 ((xs.getD ((i).toNat) opt0).2.1.length) c18] QOk.ctxG (by kernel_rfl) (by kernel_rfl) (by kernel_rfl) (by kernel_rfl) (by kernel_rfl) (at18.part 1 1) (by kernel_rfl) (by kernel_rfl) ?_
        refine XD.take (i := 7) (l' := (lb 24 255)) (oA B50 [1, 1, 0, 1, 0, 0, 1, 0, 0, 1, 1] 7) (.v (.int .i64 (((xs.getD ((i).toNat) opt0).2.1.length : Nat) : Int))) QOk.ctxG (by kernel_rfl) (by kernel_rfl) (by kernel_rfl) (by kernel_rfl) (by kernel_rfl) ?_
        refine XD.take (i := 8) (l' := (lb 24 511)) (oA B50 [1, 1, 0, 1, 0, 0, 1, 0, 0, 1, 1] 8) (.v (.slice A xs.length c)) QOk.ctxG (by kernel_rfl) (by kernel_rfl) (by kernel_rfl) (by kernel_rfl) (by kernel_rfl) ?_
        refine XD.take (i := 9) (l' := (lb 24 1023)) (oA B50 [1, 1, 0, 1, 0, 0, 1, 0, 0, 1, 1] 9) (.v (.int .i64 i)) QOk.ctxG (by kernel_rfl) (by kernel_rfl) (by kernel_rfl) (by kernel_rfl) (by kernel_rfl) ?_
        have b19 : (0 : Int) ≤ i := by omega
        have b20 : i < ((xs.length : Nat) : Int) := by omega
        obtain ⟨A21, c21, at21, kr21, le21, mx21, hr21⟩ := At.opt [] hr_d15 ((i).toNat) (by omega)
        simp only [IntKind.lo, IntKind.hi, maxLen] at kr21 mx21
        refine XD.index (i := 10) (l' := (lb 24 2047)) (o := (oA B50 [1, 1, 0, 1, 0, 0, 1, 0, 0, 1, 1] 10)) (t := 59) (e := 65) (sz := 3) (A := A) (n := xs.length) (c := c) (ki := .i64) (j := i) (x := .tmp 39) (ix := .tmp 40) QOk.ctxG (by kernel_rfl) (by kernel_rfl) (by kernel_rfl) (by kernel_rfl) (by kernel_rfl) (by kernel_rfl) (by kernel_rfl) (by kernel_rfl) b19 b20 (fun _ _ => rowAt.so hr_d15 (by omega)) (by kernel_rfl) ?_
        refine XD.field (i := 11) (l' := (lb 24 4095)) (o := (oA B50 [1, 1, 0, 1, 0, 0, 1, 0, 0, 1, 1] 11)) (t := 65) (f := 0) (n := 0) (A := A) (j := (i).toNat * 3) (x := .tmp 41) QOk.ctxG (by kernel_rfl) (by kernel_rfl) (by kernel_rfl) (by kernel_rfl) (by kernel_rfl) (by kernel_rfl) (by kernel_rfl) ?_
        refine XD.load (i := 12) (l' := (lb 24 8191)) (o := (oA B50 [1, 1, 0, 1, 0, 0, 1, 0, 0, 1, 1] 12)) (t := 3) (A := A) (j := (i).toNat * 3 + 0) (x := .tmp 42) (z := .int .i64 ((xs.getD ((i).toNat) opt0).1)) [.int .i64 ((xs.getD ((i).toNat) opt0).1)] QOk.ctxG (by kernel_rfl) (by kernel_rfl) (by kernel_rfl) (by kernel_rfl) (by kernel_rfl) (at21.part 0 1) (by kernel_rfl) (by kernel_rfl) ?_
        refine XD.take (i := 16) (l' := (lb 24 73727)) (oA B50 [1, 1, 0, 1, 0, 0, 1, 0, 0, 1, 1] 16) (.v (.slice A xs.length c)) QOk.ctxG (by kernel_rfl) (by kernel_rfl) (by kernel_rfl) (by kernel_rfl) (by kernel_rfl) ?_
        refine XD.take (i := 17) (l' := (lb 24 204799)) (oA B50 [1, 1, 0, 1, 0, 0, 1, 0, 0, 1, 1] 17) (.v (.int .i64 i)) QOk.ctxG (by kernel_rfl) (by kernel_rfl) (by kernel_rfl) (by kernel_rfl) (by kernel_rfl) ?_
        have b22 : (0 : Int) ≤ i := by omega
        have b23 : i < ((xs.length : Nat) : Int) := by omega
        obtain ⟨A24, c24, at24, kr24, le24, mx24, hr24⟩ := At.opt [] hr_d15 ((i).toNat) (by omega)
        simp only [IntKind.lo, IntKind.hi, maxLen] at kr24 mx24
        refine XD.index (i := 18) (l' := (lb 24 466943)) (o := (oA B50 [1, 1, 0, 1, 0, 0, 1, 0, 0, 1, 1] 18)) (t := 59) (e := 65) (sz := 3) (A := A) (n := xs.length) (c := c) (ki := .i64) (j := i) (x := .tmp 47) (ix := .tmp 48) QOk.ctxG (by kernel_rfl) (by kernel_rfl) (by kernel_rfl) (by kernel_rfl) (by kernel_rfl) (by kernel_rfl) (by kernel_rfl) (by kernel_rfl) b22 b23 (fun _ _ => rowAt.so hr_d15 (by omega)) (by kernel_rfl) ?_
        refine XD.field (i := 19) (l' := (lb 24 991231)) (o := (oA B50 [1, 1, 0, 1, 0, 0, 1, 0, 0, 1, 1] 19)) (t := 65) (f := 2) (n := 2) (A := A) (j := (i).toNat * 3) (x := .tmp 49) QOk.ctxG (by kernel_rfl) (by kernel_rfl) (by kernel_rfl) (by kernel_rfl) (by kernel_rfl) (by kernel_rfl) (by kernel_rfl) ?_
        refine XD.load (i := 20) (l' := (lb 24 2039807)) (o := (oA B50 [1, 1, 0, 1, 0, 0, 1, 0, 0, 1, 1] 20)) (t := 9) (A := A) (j := (i).toNat * 3 + 2) (x := .tmp 50) (z := .string ((xs.getD ((i).toNat) opt0).2.2)) [.string ((xs.getD ((i).toNat) opt0).2.2)] QOk.ctxG (by kernel_rfl) (by kernel_rfl) (by kernel_rfl) (by kernel_rfl) (by kernel_rfl) (at24.part 2 1) (by kernel_rfl) (by kernel_rfl) ?_
        refine XD.take (i := 21) (l' := (lb 24 4136959)) (oA B50 [1, 1, 0, 1, 0, 0, 1, 0, 0, 1, 1] 21) (.v (.int .i64 (((xs.getD ((i).toNat) opt0).2.2).size : Int))) QOk.ctxG (by kernel_rfl) (by kernel_rfl) (by kernel_rfl) (by kernel_rfl) (by kernel_rfl) ?_
        refine XD.norm [0, 4, 5, 32, 38, 43, 52] [] ⟨115, [(0, .v (.slice A xs.length c)), (4, .v (.int .i64 mm)), (5, .v (.int .i64 i)), (32, .v (.int .i64 (mm + 2))), (38, .v (.int .i64 (((xs.getD ((i).toNat) opt0).2.1.length : Nat) : Int))), (43, .v (.int .i64 ((xs.getD ((i).toNat) opt0).1))), (52, .v (.int .i64 (((xs.getD ((i).toNat) opt0).2.2).size : Int)))], []⟩ (by kernel_rfl) trivial ?_
        refine XD.one (i := 13) (l' := (lb 24 4145151)) (oA B50 [1, 1, 0, 1, 0, 0, 1, 0, 0, 1, 1] 13) (by kernel_rfl) (by kernel_rfl) (by kernel_rfl) ?_
        refine X.callG (f := 112) (l := [.v (.int .i64 ((xs.getD ((i).toNat) opt0).1))]) [.int .i64 ((xs.getD ((i).toNat) opt0).1)] 0 (by kernel_rfl) (by kernel_rfl) (by kernel_rfl) (rsize_ok ((xs.getD ((i).toNat) opt0).1) _) ?_
        rintro v25 G25 rows25 hG25 ⟨rfl, rfl⟩
        replace hr := hr.mono hG25.le
        replace hr5 := hr5.mono hG25.le
        replace hr9 := hr9.mono hG25.le
        replace hr12 := hr12.mono hG25.le
        replace hr18 := hr18.mono hG25.le
        replace hr21 := hr21.mono hG25.le
        replace hr24 := hr24.mono hG25.le
        refine X.back ⟨trivial, hG25.le, rfl, ?_⟩
        refine XD.take (i := 14) (l' := (lb 24 4161535)) (oA B50 [1, 1, 0, 1, 0, 0, 1, 0, 0, 1, 1] 14) (.v (.int .i64 (IntKind.i64.wrap ((((xs.getD ((i).toNat) opt0).2.1.length : Nat) : Int) * (szk ((xs.getD ((i).toNat) opt0).1)))))) QOk.ctxG (by kernel_rfl) (by kernel_rfl) (by kernel_rfl) (by kernel_rfl) (by kernel_rfl) ?_
        refine XD.known 45 (y := .v (.int .i64 ((((xs.getD ((i).toNat) opt0).2.1.length : Nat) : Int) * (szk ((xs.getD ((i).toNat) opt0).1))))) rfl (congrArg (fun z_ => AV.v (.int .i64 z_)) (wi64 (by omega) (by omega))) ?_
        refine XD.take (i := 15) (l' := (lb 24 4194303)) (oA B50 [1, 1, 0, 1, 0, 0, 1, 0, 0, 1, 1] 15) (.v (.int .i64 (IntKind.i64.wrap ((mm + 2) + ((((xs.getD ((i).toNat) opt0).2.1.length : Nat) : Int) * (szk ((xs.getD ((i).toNat) opt0).1))))))) QOk.ctxG (by kernel_rfl) (by kernel_rfl) (by kernel_rfl) (by kernel_rfl) (by kernel_rfl) ?_
        refine XD.known 46 (y := .v (.int .i64 ((mm + 2) + ((((xs.getD ((i).toNat) opt0).2.1.length : Nat) : Int) * (szk ((xs.getD ((i).toNat) opt0).1)))))) rfl (congrArg (fun z_ => AV.v (.int .i64 z_)) (wi64 (by omega) (by omega))) ?_
        refine XD.take (i := 22) (l' := (lb 24 8388607)) (oA B50 [1, 1, 0, 1, 0, 0, 1, 0, 0, 1, 1] 22) (.v (.int .i64 (IntKind.i64.wrap (((mm + 2) + ((((xs.getD ((i).toNat) opt0).2.1.length : Nat) : Int) * (szk ((xs.getD ((i).toNat) opt0).1)))) + (((xs.getD ((i).toNat) opt0).2.2).size : Int))))) QOk.ctxG (by kernel_rfl) (by kernel_rfl) (by kernel_rfl) (by kernel_rfl) (by kernel_rfl) ?_
        refine XD.known 53 (y := .v (.int .i64 (((mm + 2) + ((((xs.getD ((i).toNat) opt0).2.1.length : Nat) : Int) * (szk ((xs.getD ((i).toNat) opt0).1)))) + (((xs.getD ((i).toNat) opt0).2.2).size : Int)))) rfl (congrArg (fun z_ => AV.v (.int .i64 z_)) (wi64 (by omega) (by omega))) ?_
        refine XD.take (i := 23) (l' := (lb 24 16777215)) (oA B50 [1, 1, 0, 1, 0, 0, 1, 0, 0, 1, 1] 23) (.v (.int .i64 (((mm + 2) + ((((xs.getD ((i).toNat) opt0).2.1.length : Nat) : Int) * (szk ((xs.getD ((i).toNat) opt0).1)))) + (((xs.getD ((i).toNat) opt0).2.2).size : Int)))) QOk.ctxG (by kernel_rfl) (by kernel_rfl) (by kernel_rfl) (by kernel_rfl) (by kernel_rfl) ?_
        refine XD.done (by kernel_rfl) ?_
        refine X.run 7 [0, 4, 5] [] (.ex .normal) [.loop J1, .blk 0, .seq (cA B50 [1, 1, 1])] ⟨115, [(0, .v (.slice A xs.length c)), (4, .v (.int .i64 (((mm + 2) + ((((xs.getD ((i).toNat) opt0).2.1.length : Nat) : Int) * (szk ((xs.getD ((i).toNat) opt0).1)))) + (((xs.getD ((i).toNat) opt0).2.2).size : Int)))), (5, .v (.int .i64 (IntKind.i64.wrap (i + 1))))], []⟩ (by kernel_rfl) ?_
        -- again (TFF)
        have e1 : IntKind.i64.wrap (i + 1) = i + 1 := wi64 (by omega) (by omega)
        have e0 : (i + 1).toNat = i.toNat + 1 := by omega
        have hh_ : hadB ys9 (xs.getD (i).toNat opt0).1 = false := by assumption
        rw [← hys9] at hh_
        exact X.again (hJ1 _ _ _ _ ⟨((mm + 2) + ((((xs.getD ((i).toNat) opt0).2.1.length : Nat) : Int) * (szk ((xs.getD ((i).toNat) opt0).1)))) + (((xs.getD ((i).toNat) opt0).2.2).size : Int), IntKind.i64.wrap (i + 1), rfl, rfl, (((hG1.trans hG6).trans hG13).trans hG25), ⟨by omega, by omega, by rw [e1, e0, chk_step (by omega) (by assumption) hh_]; exact hck, by rw [e1, e0, sumO_step (by omega), optLen]; omega, by omega⟩, rfl⟩ (by rw [e1]; omega))
  · -- slot 13: decide (i < ((xs.length : Nat) : Int)) is False
    replace h2 : ¬ (i < ((xs.length : Nat) : Int)) := of_decide_eq_false h2
    refine X.run 13 [0, 55] [] (.code (cA B50 [1, 1, 1, 0, 1])) [.seq (cA B50 [1, 1, 1, 1])] ⟨115, [(0, .v (.slice A xs.length c)), (55, .v (.bool (decide (mm > 40))))], []⟩ (by kernel_rfl) ?_
    refine X.split 55 rfl (fun h26 => ?_) (fun h26 => ?_)
    · -- slot 55: decide (mm > 40) is True
      replace h26 : mm > 40 := of_decide_eq_true h26
      have hc_ : chk [] xs = 0 := by rw [← hck]; exact chk_nil (by omega)
      rw [List.take_of_length_le (show xs.length ≤ i.toNat by omega)] at hm
      refine X.run 9 [2, 3] [] (.ex .ret) [] ⟨115, [(2, .v (.slice none 0 0)), (3, .v (.int .i64 4))], []⟩ (by kernel_rfl) ?_
      refine X.nilRow 900 5 1 rfl ?_
      refine doneG (.inl rfl) [.slice none 0 0, .int .i64 4] [900] (by kernel_rfl) rfl rfl (hG1) ?_
      -- end 3 (FT)
      have he_ : errO xs = 4 := errO_long hc_ (by omega)
      rw [printO_no (by rw [he_]; decide), he_]
      exact ⟨none, 0, rfl, rfl⟩
    · -- slot 55: decide (mm > 40) is False
      replace h26 : ¬ (mm > 40) := of_decide_eq_false h26
      have hc_ : chk [] xs = 0 := by rw [← hck]; exact chk_nil (by omega)
      rw [List.take_of_length_le (show xs.length ≤ i.toNat by omega)] at hm
      have hsum_ : sumO xs ≤ 40 := by omega
      have hfin_ := chk_all hc_
      refine X.run 15 [0, 6, 7] [] (.code (cA B50 [1, 1, 1, 1, 1, 0, 1, 0])) [.blk 2, .seq (cA B50 [1, 1, 1, 1, 1, 1])] ⟨115, [(0, .v (.slice A xs.length c)), (6, .v (.slice none 0 0)), (7, .v (.int .i64 0))], []⟩ (by kernel_rfl) ?_
      refine X.nilRow 20 5 1 rfl ?_
      refine X.loopJ (fun m s R' G' => ∃ (B_ : Option Addr) (c_ n_ : Nat) (l_ : List Int) (j : Int), s = ⟨115, [(0, .v (.slice A xs.length c)), (6, .v (.slice B_ n_ c_)), (7, .v (.int .i64 j))], []⟩ ∧ R' = [(20, ⟨5, 1, .slice B_ n_ c_, n_, (l_).map (Value.int .u8)⟩)] ∧ Ge G1 w.heap.size G' ∧ (0 ≤ j ∧ j ≤ (xs.length : Int) ∧ l_ = bodyO (xs.take j.toNat) ∧ n_ = l_.length) ∧ m = ((xs.length : Int) - j).toNat) _ ⟨none, 0, 0, [], 0, rfl, rfl, Ge.refl _ _, ⟨by omega, by omega, by simp [bodyO], rfl⟩, rfl⟩ ?_
      rintro m27 s27 R27 G27 ⟨B_, c_, n_, l_, j, rfl, rfl, hG27, hF27, rfl⟩ J27 hJ27
      replace hr := hr.mono hG27.le
      obtain ⟨hj0, hj1, hl, hnl⟩ := hF27
      have hn : (n_ : Int) = sumO (xs.take j.toNat) := by rw [← bodyO_len, ← hl, hnl]
      refine X.run 9 [0, 6, 7, 59] [] (.code (cA B50 [1, 1, 1, 1, 1, 0, 1, 0, 0, 0, 1])) [.seq (cA B50 [1, 1, 1, 1, 1, 0, 1, 0, 0, 1]), .loop J27, .blk 2, .seq (cA B50 [1, 1, 1, 1, 1, 1])] ⟨115, [(0, .v (.slice A xs.length c)), (6, .v (.slice B_ n_ c_)), (7, .v (.int .i64 j)), (59, .v (.bool (decide (j < ((xs.length : Nat) : Int)))))], []⟩ (by kernel_rfl) ?_
      refine X.split 59 rfl (fun h28 => ?_) (fun h28 => ?_)
      · -- slot 59: decide (j < ((xs.length : Nat) : Int)) is True
        replace h28 : j < ((xs.length : Nat) : Int) := of_decide_eq_true h28
        have hz_ := fine_prod (hfin_ (xs.getD (j).toNat opt0) (getD_mem (by omega)))
        have hqy_ := hq (xs.getD (j).toNat opt0) (getD_mem (by omega))
        have hsz_ := szk_nn (xs.getD (j).toNat opt0).1
        have hsl_ : sumO (xs.take j.toNat) + optLen (xs.getD (j).toNat opt0) ≤ 40 := by rw [← sumO_step (by omega)]; exact Int.le_trans (sumO_le xs _) hsum_
        have hol_ : optLen (xs.getD (j).toNat opt0) = 2 + ((xs.getD (j).toNat opt0).2.1.length : Int) * szk (xs.getD (j).toNat opt0).1 + ((xs.getD (j).toNat opt0).2.2.size : Int) := rfl
        refine X.run 9 [0, 6, 7, 62, 63] [] (.ops (aA B50 [1, 1, 1, 1, 1, 0, 1, 0, 0, 1, 0, 0, 0]) (oA B50 [1, 1, 1, 1, 1, 0, 1, 0, 0, 1, 0, 0, 0] 2 :: lA B50 [1, 1, 1, 1, 1, 0, 1, 0, 0, 1, 0, 0, 0] 3)) [.seq (cA B50 [1, 1, 1, 1, 1, 0, 1, 0, 0, 1, 0, 0, 1]), .blk 3, .seq (cA B50 [1, 1, 1, 1, 1, 0, 1, 0, 0, 1, 1]), .loop J27, .blk 2, .seq (cA B50 [1, 1, 1, 1, 1, 1])] ⟨115, [(0, .v (.slice A xs.length c)), (6, .v (.slice B_ n_ c_)), (7, .v (.int .i64 j)), (62, .v (.slice A xs.length c)), (63, .v (.int .i64 j))], []⟩ (by kernel_rfl) ?_
        have b29 : (0 : Int) ≤ j := by omega
        have b30 : j < ((xs.length : Nat) : Int) := by omega
        refine X.index (t := 59) (e := 65) (sz := 3) (A := A) (n := xs.length) (c := c) (ki := .i64) (i := j) (x := .tmp 62) (ix := .tmp 63) (by kernel_rfl) (by kernel_rfl) (by kernel_rfl) (by kernel_rfl) (by kernel_rfl) (by kernel_rfl) b29 b30 (fun _ _ => rowAt.so hr (by omega)) ?_
        obtain ⟨A31, c31, at31, kr31, le31, mx31, hr31⟩ := At.opt [(20, ⟨5, 1, .slice B_ n_ c_, n_, (l_).map (Value.int .u8)⟩)] hr ((j).toNat) (by omega)
        simp only [IntKind.lo, IntKind.hi, maxLen] at kr31 mx31
        refine X.run 0 [0, 6, 7, 64] [] (.ops (aA B50 [1, 1, 1, 1, 1, 0, 1, 0, 0, 1, 0, 0, 0]) (oA B50 [1, 1, 1, 1, 1, 0, 1, 0, 0, 1, 0, 0, 0] 3 :: lA B50 [1, 1, 1, 1, 1, 0, 1, 0, 0, 1, 0, 0, 0] 4)) [.seq (cA B50 [1, 1, 1, 1, 1, 0, 1, 0, 0, 1, 0, 0, 1]), .blk 3, .seq (cA B50 [1, 1, 1, 1, 1, 0, 1, 0, 0, 1, 1]), .loop J27, .blk 2, .seq (cA B50 [1, 1, 1, 1, 1, 1])] ⟨115, [(0, .v (.slice A xs.length c)), (6, .v (.slice B_ n_ c_)), (7, .v (.int .i64 j)), (64, .v (elt A ((j).toNat * 3)))], []⟩ (by kernel_rfl) ?_
        refine X.load (t := 65) (A := A) (j := (j).toNat * 3) (x := .tmp 64) (z := .agg #[.int .i64 ((xs.getD ((j).toNat) opt0).1), .slice A31 ((xs.getD ((j).toNat) opt0).2.1.length) c31, .string ((xs.getD ((j).toNat) opt0).2.2)]) [.int .i64 ((xs.getD ((j).toNat) opt0).1), .slice A31 ((xs.getD ((j).toNat) opt0).2.1.length) c31, .string ((xs.getD ((j).toNat) opt0).2.2)] (by kernel_rfl) (by kernel_rfl) at31 (by kernel_rfl) (by kernel_rfl) ?_
        refine X.run 5 [0, 6, 7, 8] [8] (.code (cA B50 [1, 1, 1, 1, 1, 0, 1, 0, 0, 1, 0, 0, 1, 0])) [.seq (cA B50 [1, 1, 1, 1, 1, 0, 1, 0, 0, 1, 0, 0, 1, 1]), .blk 3, .seq (cA B50 [1, 1, 1, 1, 1, 0, 1, 0, 0, 1, 1]), .loop J27, .blk 2, .seq (cA B50 [1, 1, 1, 1, 1, 1])] ⟨115, [(0, .v (.slice A xs.length c)), (6, .v (.slice B_ n_ c_)), (7, .v (.int .i64 j)), (8, .own 8 0)], [(8, ⟨65, [.v (.int .i64 ((xs.getD ((j).toNat) opt0).1)), .v (.slice A31 ((xs.getD ((j).toNat) opt0).2.1.length) c31), .v (.string ((xs.getD ((j).toNat) opt0).2.2))]⟩)]⟩ (by kernel_rfl) ?_
        have hr_d32 := hr
        have hr31_d32 := hr31
        refine XD.open (id := 17) (arr := aA B50 [1, 1, 1, 1, 1, 0, 1, 0, 0, 1, 0, 0, 1, 0]) 20 [⟨some 8, 8, 65, [.v (.int .i64 ((xs.getD ((j).toNat) opt0).1)), .v (.slice A31 ((xs.getD ((j).toNat) opt0).2.1.length) c31), .v (.string ((xs.getD ((j).toNat) opt0).2.2))]⟩] [] [] (by kernel_rfl) (by kernel_rfl) (by kernel_rfl) (by kernel_rfl) (by kernel_rfl) ⟨⟨fun _ h => (by cases h; rfl), rfl⟩, trivial⟩ (by intro p hp hn; simp only [List.mem_cons, List.not_mem_nil, or_false] at hp; rcases hp with rfl <;> first | (cases hn; done) | exact absurd _ (Nat.le_of_ble_eq_true rfl)) rfl (fun ρ0 => ?_)
        refine XD.take (i := 0) (l' := (lb 20 1)) (oA B50 [1, 1, 1, 1, 1, 0, 1, 0, 0, 1, 0, 0, 1, 0] 0) (.v (.slice B_ n_ c_)) QOk.ctxG (by kernel_rfl) (by kernel_rfl) (by kernel_rfl) (by kernel_rfl) (by kernel_rfl) ?_
        refine XD.take (i := 1) (l' := (lb 20 3)) (oA B50 [1, 1, 1, 1, 1, 0, 1, 0, 0, 1, 0, 0, 1, 0] 1) (.own 8 0) QOk.ctxG (by kernel_rfl) (by kernel_rfl) (by kernel_rfl) (by kernel_rfl) (by kernel_rfl) ?_
        refine XD.take (i := 2) (l' := (lb 20 7)) (oA B50 [1, 1, 1, 1, 1, 0, 1, 0, 0, 1, 0, 0, 1, 0] 2) (.v (.int .i64 ((xs.getD ((j).toNat) opt0).1))) QOk.ctxG (by kernel_rfl) (by kernel_rfl) (by kernel_rfl) (by kernel_rfl) (by kernel_rfl) ?_
        refine XD.take (i := 3) (l' := (lb 20 15)) (oA B50 [1, 1, 1, 1, 1, 0, 1, 0, 0, 1, 0, 0, 1, 0] 3) (.v (.int .u8 (IntKind.u8.wrap ((xs.getD ((j).toNat) opt0).1)))) QOk.ctxG (by kernel_rfl) (by kernel_rfl) (by kernel_rfl) (by kernel_rfl) (by kernel_rfl) ?_
        refine XD.take (i := 4) (l' := (lb 20 31)) (oA B50 [1, 1, 1, 1, 1, 0, 1, 0, 0, 1, 0, 0, 1, 0] 4) (.own 8 1) QOk.ctxG (by kernel_rfl) (by kernel_rfl) (by kernel_rfl) (by kernel_rfl) (by kernel_rfl) ?_
        refine XD.take (i := 5) (l' := (lb 20 63)) (oA B50 [1, 1, 1, 1, 1, 0, 1, 0, 0, 1, 0, 0, 1, 0] 5) (.v (.slice A31 ((xs.getD ((j).toNat) opt0).2.1.length) c31)) QOk.ctxG (by kernel_rfl) (by kernel_rfl) (by kernel_rfl) (by kernel_rfl) (by kernel_rfl) ?_
        refine XD.take (i := 6) (l' := (lb 20 127)) (oA B50 [1, 1, 1, 1, 1, 0, 1, 0, 0, 1, 0, 0, 1, 0] 6) (.v (.int .i64 (((xs.getD ((j).toNat) opt0).2.1.length : Nat) : Int))) QOk.ctxG (by kernel_rfl) (by kernel_rfl) (by kernel_rfl) (by kernel_rfl) (by kernel_rfl) ?_
        refine XD.take (i := 7) (l' := (lb 20 255)) (oA B50 [1, 1, 1, 1, 1, 0, 1, 0, 0, 1, 0, 0, 1, 0] 7) (.own 8 0) QOk.ctxG (by kernel_rfl) (by kernel_rfl) (by kernel_rfl) (by kernel_rfl) (by kernel_rfl) ?_
        refine XD.take (i := 8) (l' := (lb 20 511)) (oA B50 [1, 1, 1, 1, 1, 0, 1, 0, 0, 1, 0, 0, 1, 0] 8) (.v (.int .i64 ((xs.getD ((j).toNat) opt0).1))) QOk.ctxG (by kernel_rfl) (by kernel_rfl) (by kernel_rfl) (by kernel_rfl) (by kernel_rfl) ?_
        refine XD.take (i := 12) (l' := (lb 20 4607)) (oA B50 [1, 1, 1, 1, 1, 0, 1, 0, 0, 1, 0, 0, 1, 0] 12) (.own 8 2) QOk.ctxG (by kernel_rfl) (by kernel_rfl) (by kernel_rfl) (by kernel_rfl) (by kernel_rfl) ?_
        refine XD.take (i := 13) (l' := (lb 20 12799)) (oA B50 [1, 1, 1, 1, 1, 0, 1, 0, 0, 1, 0, 0, 1, 0] 13) (.v (.string ((xs.getD ((j).toNat) opt0).2.2))) QOk.ctxG (by kernel_rfl) (by kernel_rfl) (by kernel_rfl) (by kernel_rfl) (by kernel_rfl) ?_
        refine XD.take (i := 14) (l' := (lb 20 29183)) (oA B50 [1, 1, 1, 1, 1, 0, 1, 0, 0, 1, 0, 0, 1, 0] 14) (.v (.int .i64 (((xs.getD ((j).toNat) opt0).2.2).size : Int))) QOk.ctxG (by kernel_rfl) (by kernel_rfl) (by kernel_rfl) (by kernel_rfl) (by kernel_rfl) ?_
        refine XD.norm [0, 6, 7, 8, 66, 69, 72, 74, 80] [8] ⟨115, [(0, .v (.slice A xs.length c)), (6, .v (.slice B_ n_ c_)), (7, .v (.int .i64 j)), (8, .own 8 0), (66, .v (.slice B_ n_ c_)), (69, .v (.int .u8 (IntKind.u8.wrap ((xs.getD ((j).toNat) opt0).1)))), (72, .v (.int .i64 (((xs.getD ((j).toNat) opt0).2.1.length : Nat) : Int))), (74, .v (.int .i64 ((xs.getD ((j).toNat) opt0).1))), (80, .v (.int .i64 (((xs.getD ((j).toNat) opt0).2.2).size : Int)))], [(8, ⟨65, [.v (.int .i64 ((xs.getD ((j).toNat) opt0).1)), .v (.slice A31 ((xs.getD ((j).toNat) opt0).2.1.length) c31), .v (.string ((xs.getD ((j).toNat) opt0).2.2))]⟩)]⟩ (by kernel_rfl) ⟨⟨fun _ h => (by cases h; rfl), rfl⟩, trivial⟩ ?_
        refine XD.one (i := 9) (l' := (lb 20 29695)) (oA B50 [1, 1, 1, 1, 1, 0, 1, 0, 0, 1, 0, 0, 1, 0] 9) (by kernel_rfl) (by kernel_rfl) (by kernel_rfl) ?_
        refine X.callG (f := 112) (l := [.v (.int .i64 ((xs.getD ((j).toNat) opt0).1))]) [.int .i64 ((xs.getD ((j).toNat) opt0).1)] 0 (by kernel_rfl) (by kernel_rfl) (by kernel_rfl) (rsize_ok ((xs.getD ((j).toNat) opt0).1) _) ?_
        rintro v33 G33 rows33 hG33 ⟨rfl, rfl⟩
        replace hr := hr.mono hG33.le
        replace hr31 := hr31.mono hG33.le
        refine X.back ⟨⟨⟨fun _ h => (by cases h; rfl), rfl⟩, trivial⟩, hG33.le, rfl, ?_⟩
        refine XD.take (i := 10) (l' := (lb 20 30719)) (oA B50 [1, 1, 1, 1, 1, 0, 1, 0, 0, 1, 0, 0, 1, 0] 10) (.v (.int .i64 (IntKind.i64.wrap ((((xs.getD ((j).toNat) opt0).2.1.length : Nat) : Int) * (szk ((xs.getD ((j).toNat) opt0).1)))))) QOk.ctxG (by kernel_rfl) (by kernel_rfl) (by kernel_rfl) (by kernel_rfl) (by kernel_rfl) ?_
        refine XD.known 76 (y := .v (.int .i64 ((((xs.getD ((j).toNat) opt0).2.1.length : Nat) : Int) * (szk ((xs.getD ((j).toNat) opt0).1))))) rfl (congrArg (fun z_ => AV.v (.int .i64 z_)) (wi64 (by omega) (by omega))) ?_
        refine XD.take (i := 11) (l' := (lb 20 32767)) (oA B50 [1, 1, 1, 1, 1, 0, 1, 0, 0, 1, 0, 0, 1, 0] 11) (.v (.int .i64 (IntKind.i64.wrap (2 + ((((xs.getD ((j).toNat) opt0).2.1.length : Nat) : Int) * (szk ((xs.getD ((j).toNat) opt0).1))))))) QOk.ctxG (by kernel_rfl) (by kernel_rfl) (by kernel_rfl) (by kernel_rfl) (by kernel_rfl) ?_
        refine XD.known 77 (y := .v (.int .i64 (2 + ((((xs.getD ((j).toNat) opt0).2.1.length : Nat) : Int) * (szk ((xs.getD ((j).toNat) opt0).1)))))) rfl (congrArg (fun z_ => AV.v (.int .i64 z_)) (wi64 (by omega) (by omega))) ?_
        refine XD.take (i := 15) (l' := (lb 20 65535)) (oA B50 [1, 1, 1, 1, 1, 0, 1, 0, 0, 1, 0, 0, 1, 0] 15) (.v (.int .i64 (IntKind.i64.wrap ((2 + ((((xs.getD ((j).toNat) opt0).2.1.length : Nat) : Int) * (szk ((xs.getD ((j).toNat) opt0).1)))) + (((xs.getD ((j).toNat) opt0).2.2).size : Int))))) QOk.ctxG (by kernel_rfl) (by kernel_rfl) (by kernel_rfl) (by kernel_rfl) (by kernel_rfl) ?_
        refine XD.known 81 (y := .v (.int .i64 ((2 + ((((xs.getD ((j).toNat) opt0).2.1.length : Nat) : Int) * (szk ((xs.getD ((j).toNat) opt0).1)))) + (((xs.getD ((j).toNat) opt0).2.2).size : Int)))) rfl (congrArg (fun z_ => AV.v (.int .i64 z_)) (wi64 (by omega) (by omega))) ?_
        refine XD.take (i := 16) (l' := (lb 20 131071)) (oA B50 [1, 1, 1, 1, 1, 0, 1, 0, 0, 1, 0, 0, 1, 0] 16) (.v (.int .u8 (IntKind.u8.wrap ((2 + ((((xs.getD ((j).toNat) opt0).2.1.length : Nat) : Int) * (szk ((xs.getD ((j).toNat) opt0).1)))) + (((xs.getD ((j).toNat) opt0).2.2).size : Int))))) QOk.ctxG (by kernel_rfl) (by kernel_rfl) (by kernel_rfl) (by kernel_rfl) (by kernel_rfl) ?_
        refine XD.norm [0, 6, 7, 8, 66, 69, 82] [8] ⟨115, [(0, .v (.slice A xs.length c)), (6, .v (.slice B_ n_ c_)), (7, .v (.int .i64 j)), (8, .own 8 0), (66, .v (.slice B_ n_ c_)), (69, .v (.int .u8 (IntKind.u8.wrap ((xs.getD ((j).toNat) opt0).1)))), (82, .v (.int .u8 (IntKind.u8.wrap ((2 + ((((xs.getD ((j).toNat) opt0).2.1.length : Nat) : Int) * (szk ((xs.getD ((j).toNat) opt0).1)))) + (((xs.getD ((j).toNat) opt0).2.2).size : Int)))))], [(8, ⟨65, [.v (.int .i64 ((xs.getD ((j).toNat) opt0).1)), .v (.slice A31 ((xs.getD ((j).toNat) opt0).2.1.length) c31), .v (.string ((xs.getD ((j).toNat) opt0).2.2))]⟩)]⟩ (by kernel_rfl) ⟨⟨fun _ h => (by cases h; rfl), rfl⟩, trivial⟩ ?_
        refine XD.one (i := 17) (l' := (lb 20 262143)) (oA B50 [1, 1, 1, 1, 1, 0, 1, 0, 0, 1, 0, 0, 1, 0] 17) (by kernel_rfl) (by kernel_rfl) (by kernel_rfl) ?_
        refine X.lit 83 5 1 2 [.int .u8 (IntKind.u8.wrap ((xs.getD ((j).toNat) opt0).1)), .int .u8 (IntKind.u8.wrap ((2 + ((((xs.getD ((j).toNat) opt0).2.1.length : Nat) : Int) * (szk ((xs.getD ((j).toNat) opt0).1)))) + (((xs.getD ((j).toNat) opt0).2.2).size : Int)))] (by kernel_rfl) (fun g => by kernel_rfl) ?_
        intro A34
        refine X.back ⟨⟨⟨fun _ h => (by cases h; rfl), rfl⟩, trivial⟩, hG33.le, rfl, ?_⟩
        refine XD.norm [0, 6, 7, 8, 66, 83] [8] ⟨115, [(0, .v (.slice A xs.length c)), (6, .v (.slice B_ n_ c_)), (7, .v (.int .i64 j)), (8, .own 8 0), (66, .v (.slice B_ n_ c_)), (83, .v (.slice A34 2 2))], [(8, ⟨65, [.v (.int .i64 ((xs.getD ((j).toNat) opt0).1)), .v (.slice A31 ((xs.getD ((j).toNat) opt0).2.1.length) c31), .v (.string ((xs.getD ((j).toNat) opt0).2.2))]⟩)]⟩ (by kernel_rfl) ⟨⟨fun _ h => (by cases h; rfl), rfl⟩, trivial⟩ ?_
        refine XD.one (i := 18) (l' := (lb 20 524287)) (oA B50 [1, 1, 1, 1, 1, 0, 1, 0, 0, 1, 0, 0, 1, 0] 18) (by kernel_rfl) (by kernel_rfl) (by kernel_rfl) ?_
        refine X.append 20 ⟨5, 1, .slice B_ n_ c_, n_, (l_).map (Value.int .u8)⟩ 22 1 (.int .u8 0) (x := .tmp 66) (y := .tmp 83) (n := n_) (c := c_) (m := 2) (c2 := 2) (A := B_) (B := A34) (news := [.int .u8 (IntKind.u8.wrap ((xs.getD ((j).toNat) opt0).1)), .int .u8 (IntKind.u8.wrap ((2 + ((((xs.getD ((j).toNat) opt0).2.1.length : Nat) : Int) * (szk ((xs.getD ((j).toNat) opt0).1)))) + (((xs.getD ((j).toNat) opt0).2.2).size : Int)))]) (by kernel_rfl) (by kernel_rfl) (by kernel_rfl) (by kernel_rfl) (by kernel_rfl) rfl (Nat.succ_pos _) (by kernel_rfl) (.inl rfl) rfl rfl (by kernel_rfl) (At.of_row (i := 83) (r := ⟨5, 1, .slice A34 2 2, 2, [.int .u8 (IntKind.u8.wrap ((xs.getD ((j).toNat) opt0).1)), .int .u8 (IntKind.u8.wrap ((2 + ((((xs.getD ((j).toNat) opt0).2.1.length : Nat) : Int) * (szk ((xs.getD ((j).toNat) opt0).1)))) + (((xs.getD ((j).toNat) opt0).2.2).size : Int)))]⟩) rfl rfl) (fun w hw e => absurd (rowSome (i := 83) (q := ⟨5, 1, .slice A34 2 2, 2, [.int .u8 (IntKind.u8.wrap ((xs.getD ((j).toNat) opt0).1)), .int .u8 (IntKind.u8.wrap ((2 + ((((xs.getD ((j).toNat) opt0).2.1.length : Nat) : Int) * (szk ((xs.getD ((j).toNat) opt0).1)))) + (((xs.getD ((j).toNat) opt0).2.2).size : Int)))]⟩) rfl rfl (Nat.succ_pos _) w hw) (by rw [e]; decide)) (ones (by kernel_rfl)) (by omega) (by decide) ?_
        intro A35 c35 hc35
        refine X.tellR [20, 83] (R' := [(20, ⟨5, 1, .slice A35 (n_ + 2) c35, n_ + 2, (l_ ++ [IntKind.u8.wrap ((xs.getD ((j).toNat) opt0).1), IntKind.u8.wrap ((2 + ((((xs.getD ((j).toNat) opt0).2.1.length : Nat) : Int) * (szk ((xs.getD ((j).toNat) opt0).1)))) + (((xs.getD ((j).toNat) opt0).2.2).size : Int))]).map (Value.int .u8)⟩), (83, ⟨5, 1, .slice A34 2 2, 2, [.int .u8 (IntKind.u8.wrap ((xs.getD ((j).toNat) opt0).1)), .int .u8 (IntKind.u8.wrap ((2 + ((((xs.getD ((j).toNat) opt0).2.1.length : Nat) : Int) * (szk ((xs.getD ((j).toNat) opt0).1)))) + (((xs.getD ((j).toNat) opt0).2.2).size : Int)))]⟩)]) (congrArg (fun cs_ => (20, (⟨5, 1, .slice A35 (n_ + 2) c35, n_ + 2, cs_⟩ : Row)) :: [(83, ⟨5, 1, .slice A34 2 2, 2, [.int .u8 (IntKind.u8.wrap ((xs.getD ((j).toNat) opt0).1)), .int .u8 (IntKind.u8.wrap ((2 + ((((xs.getD ((j).toNat) opt0).2.1.length : Nat) : Int) * (szk ((xs.getD ((j).toNat) opt0).1)))) + (((xs.getD ((j).toNat) opt0).2.2).size : Int)))]⟩)]) (show (l_).map (Value.int .u8) ++ [.int .u8 (IntKind.u8.wrap ((xs.getD ((j).toNat) opt0).1)), .int .u8 (IntKind.u8.wrap ((2 + ((((xs.getD ((j).toNat) opt0).2.1.length : Nat) : Int) * (szk ((xs.getD ((j).toNat) opt0).1)))) + (((xs.getD ((j).toNat) opt0).2.2).size : Int)))] = (l_ ++ [IntKind.u8.wrap ((xs.getD ((j).toNat) opt0).1), IntKind.u8.wrap ((2 + ((((xs.getD ((j).toNat) opt0).2.1.length : Nat) : Int) * (szk ((xs.getD ((j).toNat) opt0).1)))) + (((xs.getD ((j).toNat) opt0).2.2).size : Int))]).map (Value.int .u8) by simp)) ?_
        refine X.back ⟨⟨⟨fun _ h => (by cases h; rfl), rfl⟩, trivial⟩, hG33.le, rfl, ?_⟩
        refine XD.take (i := 19) (l' := (lb 20 1048575)) (oA B50 [1, 1, 1, 1, 1, 0, 1, 0, 0, 1, 0, 0, 1, 0] 19) (.v (.slice A35 (n_ + 2) c35)) QOk.ctxG (by kernel_rfl) (by kernel_rfl) (by kernel_rfl) (by kernel_rfl) (by kernel_rfl) ?_
        refine XD.done (by kernel_rfl) ?_
        refine X.run 8 [0, 6, 7, 8, 9] [8] (.code (cA B50 [1, 1, 1, 1, 1, 0, 1, 0, 0, 1, 0, 0, 1, 1, 0, 1, 0])) [.blk 4, .seq (cA B50 [1, 1, 1, 1, 1, 0, 1, 0, 0, 1, 0, 0, 1, 1, 1]), .blk 3, .seq (cA B50 [1, 1, 1, 1, 1, 0, 1, 0, 0, 1, 1]), .loop J27, .blk 2, .seq (cA B50 [1, 1, 1, 1, 1, 1])] ⟨115, [(0, .v (.slice A xs.length c)), (6, .v (.slice A35 (n_ + 2) c35)), (7, .v (.int .i64 j)), (8, .own 8 0), (9, .v (.int .i64 0))], [(8, ⟨65, [.v (.int .i64 ((xs.getD ((j).toNat) opt0).1)), .v (.slice A31 ((xs.getD ((j).toNat) opt0).2.1.length) c31), .v (.string ((xs.getD ((j).toNat) opt0).2.2))]⟩)]⟩ (by kernel_rfl) ?_
        refine X.tellR [20] (R' := [(20, ⟨5, 1, .slice A35 (n_ + 2) c35, n_ + 2, (l_ ++ [IntKind.u8.wrap ((xs.getD ((j).toNat) opt0).1), IntKind.u8.wrap ((2 + ((((xs.getD ((j).toNat) opt0).2.1.length : Nat) : Int) * (szk ((xs.getD ((j).toNat) opt0).1)))) + (((xs.getD ((j).toNat) opt0).2.2).size : Int))]).map (Value.int .u8)⟩)]) rfl ?_
        refine X.loopJ (fun m s R' G' => ∃ (D_ : Option Addr) (d_ m_ : Nat) (p_ : List Int) (q : Int), s = ⟨115, [(0, .v (.slice A xs.length c)), (6, .v (.slice D_ m_ d_)), (7, .v (.int .i64 j)), (8, .own 8 0), (9, .v (.int .i64 q))], [(8, ⟨65, [.v (.int .i64 ((xs.getD ((j).toNat) opt0).1)), .v (.slice A31 ((xs.getD ((j).toNat) opt0).2.1.length) c31), .v (.string ((xs.getD ((j).toNat) opt0).2.2))]⟩)]⟩ ∧ R' = [(20, ⟨5, 1, .slice D_ m_ d_, m_, (p_).map (Value.int .u8)⟩)] ∧ Ge G33 w.heap.size G' ∧ (0 ≤ q ∧ q ≤ ((xs.getD (j).toNat opt0).2.1.length : Int) ∧ p_ = l_ ++ putH (xs.getD (j).toNat opt0) ++ numsB (xs.getD (j).toNat opt0).1 ((xs.getD (j).toNat opt0).2.1.take q.toNat) ∧ m_ = p_.length ∧ (m_ : Int) ≤ n_ + 2 + q * 4) ∧ m = (((xs.getD (j).toNat opt0).2.1.length : Int) - q).toNat) _ ⟨A35, c35, n_ + 2, l_ ++ [IntKind.u8.wrap ((xs.getD ((j).toNat) opt0).1), IntKind.u8.wrap ((2 + ((((xs.getD ((j).toNat) opt0).2.1.length : Nat) : Int) * (szk ((xs.getD ((j).toNat) opt0).1)))) + (((xs.getD ((j).toNat) opt0).2.2).size : Int))], 0, rfl, rfl, Ge.refl _ _, ⟨by omega, by omega, put_head (o := (xs.getD (j).toNat opt0)) l_ rfl rfl, by rw [List.length_append, ← hnl]; rfl, by omega⟩, rfl⟩ ?_
        rintro m36 s36 R36 G36 ⟨D_, d_, m_, p_, q, rfl, rfl, hG36, hF36, rfl⟩ J36 hJ36
        replace hr := hr.mono hG36.le
        replace hr31 := hr31.mono hG36.le
        obtain ⟨hq0, hq1, hp, hmp, hm_⟩ := hF36
        refine X.run 10 [0, 6, 7, 8, 9, 89] [8] (.code (cA B50 [1, 1, 1, 1, 1, 0, 1, 0, 0, 1, 0, 0, 1, 1, 0, 1, 0, 0, 0, 1])) [.seq (cA B50 [1, 1, 1, 1, 1, 0, 1, 0, 0, 1, 0, 0, 1, 1, 0, 1, 0, 0, 1]), .loop J36, .blk 4, .seq (cA B50 [1, 1, 1, 1, 1, 0, 1, 0, 0, 1, 0, 0, 1, 1, 1]), .blk 3, .seq (cA B50 [1, 1, 1, 1, 1, 0, 1, 0, 0, 1, 1]), .loop J27, .blk 2, .seq (cA B50 [1, 1, 1, 1, 1, 1])] ⟨115, [(0, .v (.slice A xs.length c)), (6, .v (.slice D_ m_ d_)), (7, .v (.int .i64 j)), (8, .own 8 0), (9, .v (.int .i64 q)), (89, .v (.bool (decide (q < (((xs.getD ((j).toNat) opt0).2.1.length : Nat) : Int)))))], [(8, ⟨65, [.v (.int .i64 ((xs.getD ((j).toNat) opt0).1)), .v (.slice A31 ((xs.getD ((j).toNat) opt0).2.1.length) c31), .v (.string ((xs.getD ((j).toNat) opt0).2.2))]⟩)]⟩ (by kernel_rfl) ?_
        refine X.split 89 rfl (fun h37 => ?_) (fun h37 => ?_)
        · -- slot 89: decide (q < (((xs.getD ((j).toNat) opt0).2.1.length : Nat) : Int)) is True
          replace h37 : q < (((xs.getD ((j).toNat) opt0).2.1.length : Nat) : Int) := of_decide_eq_true h37
          refine X.run 5 [0, 6, 7, 8, 9] [8] (.code (cA B50 [1, 1, 1, 1, 1, 0, 1, 0, 0, 1, 0, 0, 1, 1, 0, 1, 0, 0, 1, 0, 0])) [.blk 5, .seq (cA B50 [1, 1, 1, 1, 1, 0, 1, 0, 0, 1, 0, 0, 1, 1, 0, 1, 0, 0, 1, 1]), .loop J36, .blk 4, .seq (cA B50 [1, 1, 1, 1, 1, 0, 1, 0, 0, 1, 0, 0, 1, 1, 1]), .blk 3, .seq (cA B50 [1, 1, 1, 1, 1, 0, 1, 0, 0, 1, 1]), .loop J27, .blk 2, .seq (cA B50 [1, 1, 1, 1, 1, 1])] ⟨115, [(0, .v (.slice A xs.length c)), (6, .v (.slice D_ m_ d_)), (7, .v (.int .i64 j)), (8, .own 8 0), (9, .v (.int .i64 q))], [(8, ⟨65, [.v (.int .i64 ((xs.getD ((j).toNat) opt0).1)), .v (.slice A31 ((xs.getD ((j).toNat) opt0).2.1.length) c31), .v (.string ((xs.getD ((j).toNat) opt0).2.2))]⟩)]⟩ (by kernel_rfl) ?_
          have hr_d38 := hr
          have hr31_d38 := hr31
          refine XD.open (id := 21) (arr := aA B50 [1, 1, 1, 1, 1, 0, 1, 0, 0, 1, 0, 0, 1, 1, 0, 1, 0, 0, 1, 0, 0]) 12 [⟨some 8, 8, 65, [.v (.int .i64 ((xs.getD ((j).toNat) opt0).1)), .v (.slice A31 ((xs.getD ((j).toNat) opt0).2.1.length) c31), .v (.string ((xs.getD ((j).toNat) opt0).2.2))]⟩] [] [] (by kernel_rfl) (by kernel_rfl) (by kernel_rfl) (by kernel_rfl) (by kernel_rfl) ⟨⟨fun _ h => (by cases h; rfl), rfl⟩, trivial⟩ (by intro p hp hn; simp only [List.mem_cons, List.not_mem_nil, or_false] at hp; rcases hp with rfl <;> first | (cases hn; done) | exact absurd _ (Nat.le_of_ble_eq_true rfl)) rfl (fun ρ0 => ?_)
          refine XD.take (i := 0) (l' := (lb 12 1)) (oA B50 [1, 1, 1, 1, 1, 0, 1, 0, 0, 1, 0, 0, 1, 1, 0, 1, 0, 0, 1, 0, 0] 0) (.v (.slice D_ m_ d_)) QOk.ctxG (by kernel_rfl) (by kernel_rfl) (by kernel_rfl) (by kernel_rfl) (by kernel_rfl) ?_
          refine XD.take (i := 1) (l' := (lb 12 3)) (oA B50 [1, 1, 1, 1, 1, 0, 1, 0, 0, 1, 0, 0, 1, 1, 0, 1, 0, 0, 1, 0, 0] 1) (.own 8 1) QOk.ctxG (by kernel_rfl) (by kernel_rfl) (by kernel_rfl) (by kernel_rfl) (by kernel_rfl) ?_
          refine XD.take (i := 2) (l' := (lb 12 7)) (oA B50 [1, 1, 1, 1, 1, 0, 1, 0, 0, 1, 0, 0, 1, 1, 0, 1, 0, 0, 1, 0, 0] 2) (.v (.slice A31 ((xs.getD ((j).toNat) opt0).2.1.length) c31)) QOk.ctxG (by kernel_rfl) (by kernel_rfl) (by kernel_rfl) (by kernel_rfl) (by kernel_rfl) ?_
          refine XD.take (i := 3) (l' := (lb 12 15)) (oA B50 [1, 1, 1, 1, 1, 0, 1, 0, 0, 1, 0, 0, 1, 1, 0, 1, 0, 0, 1, 0, 0] 3) (.v (.int .i64 q)) QOk.ctxG (by kernel_rfl) (by kernel_rfl) (by kernel_rfl) (by kernel_rfl) (by kernel_rfl) ?_
          have b39 : (0 : Int) ≤ q := by omega
          have b40 : q < (((xs.getD ((j).toNat) opt0).2.1.length : Nat) : Int) := by omega
          obtain ⟨at41, lo41, hi41⟩ := At.int [] hr31_d38 ((q).toNat) (by omega)
          simp only [IntKind.lo, IntKind.hi] at lo41 hi41
          refine XD.index (i := 4) (l' := (lb 12 31)) (o := (oA B50 [1, 1, 1, 1, 1, 0, 1, 0, 0, 1, 0, 0, 1, 1, 0, 1, 0, 0, 1, 0, 0] 4)) (t := 63) (e := 29) (sz := 1) (A := A31) (n := (xs.getD ((j).toNat) opt0).2.1.length) (c := c31) (ki := .i64) (j := q) (x := .tmp 94) (ix := .tmp 95) QOk.ctxG (by kernel_rfl) (by kernel_rfl) (by kernel_rfl) (by kernel_rfl) (by kernel_rfl) (by kernel_rfl) (by kernel_rfl) (by kernel_rfl) b39 b40 (fun _ _ => rowAt.so hr31_d38 (by omega)) (by kernel_rfl) ?_
          refine XD.load (i := 5) (l' := (lb 12 63)) (o := (oA B50 [1, 1, 1, 1, 1, 0, 1, 0, 0, 1, 0, 0, 1, 1, 0, 1, 0, 0, 1, 0, 0] 5)) (t := 29) (A := A31) (j := (q).toNat * 1) (x := .tmp 96) (z := .int .u32 (((xs.getD ((j).toNat) opt0).2.1).getD ((q).toNat) 0)) [.int .u32 (((xs.getD ((j).toNat) opt0).2.1).getD ((q).toNat) 0)] QOk.ctxG (by kernel_rfl) (by kernel_rfl) (by kernel_rfl) (by kernel_rfl) (by kernel_rfl) at41 (by kernel_rfl) (by kernel_rfl) ?_
          refine XD.take (i := 6) (l' := (lb 12 127)) (oA B50 [1, 1, 1, 1, 1, 0, 1, 0, 0, 1, 0, 0, 1, 1, 0, 1, 0, 0, 1, 0, 0] 6) (.own 8 0) QOk.ctxG (by kernel_rfl) (by kernel_rfl) (by kernel_rfl) (by kernel_rfl) (by kernel_rfl) ?_
          refine XD.take (i := 7) (l' := (lb 12 255)) (oA B50 [1, 1, 1, 1, 1, 0, 1, 0, 0, 1, 0, 0, 1, 1, 0, 1, 0, 0, 1, 0, 0] 7) (.v (.int .i64 ((xs.getD ((j).toNat) opt0).1))) QOk.ctxG (by kernel_rfl) (by kernel_rfl) (by kernel_rfl) (by kernel_rfl) (by kernel_rfl) ?_
          refine XD.norm [0, 6, 7, 8, 9, 92, 97, 99] [8] ⟨115, [(0, .v (.slice A xs.length c)), (6, .v (.slice D_ m_ d_)), (7, .v (.int .i64 j)), (8, .own 8 0), (9, .v (.int .i64 q)), (92, .v (.slice D_ m_ d_)), (97, .v (.int .u32 (((xs.getD ((j).toNat) opt0).2.1).getD ((q).toNat) 0))), (99, .v (.int .i64 ((xs.getD ((j).toNat) opt0).1)))], [(8, ⟨65, [.v (.int .i64 ((xs.getD ((j).toNat) opt0).1)), .v (.slice A31 ((xs.getD ((j).toNat) opt0).2.1.length) c31), .v (.string ((xs.getD ((j).toNat) opt0).2.2))]⟩)]⟩ (by kernel_rfl) ⟨⟨fun _ h => (by cases h; rfl), rfl⟩, trivial⟩ ?_
          refine XD.one (i := 8) (l' := (lb 12 511)) (oA B50 [1, 1, 1, 1, 1, 0, 1, 0, 0, 1, 0, 0, 1, 1, 0, 1, 0, 0, 1, 0, 0] 8) (by kernel_rfl) (by kernel_rfl) (by kernel_rfl) ?_
          refine X.callG (f := 112) (l := [.v (.int .i64 ((xs.getD ((j).toNat) opt0).1))]) [.int .i64 ((xs.getD ((j).toNat) opt0).1)] 0 (by kernel_rfl) (by kernel_rfl) (by kernel_rfl) (rsize_ok ((xs.getD ((j).toNat) opt0).1) _) ?_
          rintro v42 G42 rows42 hG42 ⟨rfl, rfl⟩
          replace hr := hr.mono hG42.le
          replace hr31 := hr31.mono hG42.le
          refine X.back ⟨⟨⟨fun _ h => (by cases h; rfl), rfl⟩, trivial⟩, hG42.le, rfl, ?_⟩
          refine XD.norm [0, 6, 7, 8, 9, 92, 97, 100] [8] ⟨115, [(0, .v (.slice A xs.length c)), (6, .v (.slice D_ m_ d_)), (7, .v (.int .i64 j)), (8, .own 8 0), (9, .v (.int .i64 q)), (92, .v (.slice D_ m_ d_)), (97, .v (.int .u32 (((xs.getD ((j).toNat) opt0).2.1).getD ((q).toNat) 0))), (100, .v (.int .i64 (szk ((xs.getD ((j).toNat) opt0).1))))], [(8, ⟨65, [.v (.int .i64 ((xs.getD ((j).toNat) opt0).1)), .v (.slice A31 ((xs.getD ((j).toNat) opt0).2.1.length) c31), .v (.string ((xs.getD ((j).toNat) opt0).2.2))]⟩)]⟩ (by kernel_rfl) ⟨⟨fun _ h => (by cases h; rfl), rfl⟩, trivial⟩ ?_
          refine XD.one (i := 9) (l' := (lb 12 1023)) (oA B50 [1, 1, 1, 1, 1, 0, 1, 0, 0, 1, 0, 0, 1, 1, 0, 1, 0, 0, 1, 0, 0] 9) (by kernel_rfl) (by kernel_rfl) (by kernel_rfl) ?_
          refine X.callG (f := 113) (l := [.v (.int .u32 (((xs.getD ((j).toNat) opt0).2.1).getD ((q).toNat) 0)), .v (.int .i64 (szk ((xs.getD ((j).toNat) opt0).1)))]) [.int .u32 (((xs.getD ((j).toNat) opt0).2.1).getD ((q).toNat) 0), .int .i64 (szk ((xs.getD ((j).toNat) opt0).1))] 300 (by kernel_rfl) (by kernel_rfl) (by kernel_rfl) (rput_ok (((xs.getD ((j).toNat) opt0).2.1).getD ((q).toNat) 0) ((xs.getD ((j).toNat) opt0).1) (by omega) _) ?_
          rintro v43 G43 rows43 hG43 ⟨A43, c43, rfl, rfl⟩
          replace hr := hr.mono hG43.le
          replace hr31 := hr31.mono hG43.le
          refine X.asR (R' := [(300, ⟨5, 1, .slice A43 ((be (((xs.getD ((j).toNat) opt0).2.1).getD ((q).toNat) 0) (szk ((xs.getD ((j).toNat) opt0).1)).toNat).length) c43, (be (((xs.getD ((j).toNat) opt0).2.1).getD ((q).toNat) 0) (szk ((xs.getD ((j).toNat) opt0).1)).toNat).length, (be (((xs.getD ((j).toNat) opt0).2.1).getD ((q).toNat) 0) (szk ((xs.getD ((j).toNat) opt0).1)).toNat).map (Value.int .u8)⟩), (20, ⟨5, 1, .slice D_ m_ d_, m_, (p_).map (Value.int .u8)⟩)]) rfl ?_
          have hbl43 := be_len (((xs.getD ((j).toNat) opt0).2.1).getD ((q).toNat) 0) (szk ((xs.getD ((j).toNat) opt0).1)).toNat
          refine X.back ⟨⟨⟨fun _ h => (by cases h; rfl), rfl⟩, trivial⟩, (hG42.trans hG43).le, rfl, ?_⟩
          refine XD.norm [0, 6, 7, 8, 9, 92, 101] [8] ⟨115, [(0, .v (.slice A xs.length c)), (6, .v (.slice D_ m_ d_)), (7, .v (.int .i64 j)), (8, .own 8 0), (9, .v (.int .i64 q)), (92, .v (.slice D_ m_ d_)), (101, .v (.slice A43 ((be (((xs.getD ((j).toNat) opt0).2.1).getD ((q).toNat) 0) (szk ((xs.getD ((j).toNat) opt0).1)).toNat).length) c43))], [(8, ⟨65, [.v (.int .i64 ((xs.getD ((j).toNat) opt0).1)), .v (.slice A31 ((xs.getD ((j).toNat) opt0).2.1.length) c31), .v (.string ((xs.getD ((j).toNat) opt0).2.2))]⟩)]⟩ (by kernel_rfl) ⟨⟨fun _ h => (by cases h; rfl), rfl⟩, trivial⟩ ?_
          refine XD.one (i := 10) (l' := (lb 12 2047)) (oA B50 [1, 1, 1, 1, 1, 0, 1, 0, 0, 1, 0, 0, 1, 1, 0, 1, 0, 0, 1, 0, 0] 10) (by kernel_rfl) (by kernel_rfl) (by kernel_rfl) ?_
          refine X.append 20 ⟨5, 1, .slice D_ m_ d_, m_, (p_).map (Value.int .u8)⟩ 22 1 (.int .u8 0) (x := .tmp 92) (y := .tmp 101) (n := m_) (c := d_) (m := (be (((xs.getD ((j).toNat) opt0).2.1).getD ((q).toNat) 0) (szk ((xs.getD ((j).toNat) opt0).1)).toNat).length) (c2 := c43) (A := D_) (B := A43) (news := (be (((xs.getD ((j).toNat) opt0).2.1).getD ((q).toNat) 0) (szk ((xs.getD ((j).toNat) opt0).1)).toNat).map (Value.int .u8)) (by kernel_rfl) (by kernel_rfl) (by kernel_rfl) (by kernel_rfl) (by kernel_rfl) rfl (Nat.succ_pos _) (by kernel_rfl) (.inl rfl) rfl rfl (by simp) (At.of_row (i := 300) (r := ⟨5, 1, .slice A43 ((be (((xs.getD ((j).toNat) opt0).2.1).getD ((q).toNat) 0) (szk ((xs.getD ((j).toNat) opt0).1)).toNat).length) c43, (be (((xs.getD ((j).toNat) opt0).2.1).getD ((q).toNat) 0) (szk ((xs.getD ((j).toNat) opt0).1)).toNat).length, (be (((xs.getD ((j).toNat) opt0).2.1).getD ((q).toNat) 0) (szk ((xs.getD ((j).toNat) opt0).1)).toNat).map (Value.int .u8)⟩) rfl rfl) (fun w hw e => rowNone2 (i := 300) (q := ⟨5, 1, .slice A43 ((be (((xs.getD ((j).toNat) opt0).2.1).getD ((q).toNat) 0) (szk ((xs.getD ((j).toNat) opt0).1)).toNat).length) c43, (be (((xs.getD ((j).toNat) opt0).2.1).getD ((q).toNat) 0) (szk ((xs.getD ((j).toNat) opt0).1)).toNat).length, (be (((xs.getD ((j).toNat) opt0).2.1).getD ((q).toNat) 0) (szk ((xs.getD ((j).toNat) opt0).1)).toNat).map (Value.int .u8)⟩) rfl rfl w hw e) ones_ints (by omega) (by decide) ?_
          intro A44 c44 hc44
          refine X.tellR [20, 300] (R' := [(20, ⟨5, 1, .slice A44 (m_ + (be (((xs.getD ((j).toNat) opt0).2.1).getD ((q).toNat) 0) (szk ((xs.getD ((j).toNat) opt0).1)).toNat).length) c44, m_ + (be (((xs.getD ((j).toNat) opt0).2.1).getD ((q).toNat) 0) (szk ((xs.getD ((j).toNat) opt0).1)).toNat).length, (p_ ++ (be (((xs.getD ((j).toNat) opt0).2.1).getD ((q).toNat) 0) (szk ((xs.getD ((j).toNat) opt0).1)).toNat)).map (Value.int .u8)⟩), (300, ⟨5, 1, .slice A43 ((be (((xs.getD ((j).toNat) opt0).2.1).getD ((q).toNat) 0) (szk ((xs.getD ((j).toNat) opt0).1)).toNat).length) c43, (be (((xs.getD ((j).toNat) opt0).2.1).getD ((q).toNat) 0) (szk ((xs.getD ((j).toNat) opt0).1)).toNat).length, (be (((xs.getD ((j).toNat) opt0).2.1).getD ((q).toNat) 0) (szk ((xs.getD ((j).toNat) opt0).1)).toNat).map (Value.int .u8)⟩)]) (congrArg (fun cs_ => (20, (⟨5, 1, .slice A44 (m_ + (be (((xs.getD ((j).toNat) opt0).2.1).getD ((q).toNat) 0) (szk ((xs.getD ((j).toNat) opt0).1)).toNat).length) c44, m_ + (be (((xs.getD ((j).toNat) opt0).2.1).getD ((q).toNat) 0) (szk ((xs.getD ((j).toNat) opt0).1)).toNat).length, cs_⟩ : Row)) :: [(300, ⟨5, 1, .slice A43 ((be (((xs.getD ((j).toNat) opt0).2.1).getD ((q).toNat) 0) (szk ((xs.getD ((j).toNat) opt0).1)).toNat).length) c43, (be (((xs.getD ((j).toNat) opt0).2.1).getD ((q).toNat) 0) (szk ((xs.getD ((j).toNat) opt0).1)).toNat).length, (be (((xs.getD ((j).toNat) opt0).2.1).getD ((q).toNat) 0) (szk ((xs.getD ((j).toNat) opt0).1)).toNat).map (Value.int .u8)⟩)]) (show (p_).map (Value.int .u8) ++ ((be (((xs.getD ((j).toNat) opt0).2.1).getD ((q).toNat) 0) (szk ((xs.getD ((j).toNat) opt0).1)).toNat).map (Value.int .u8)) = (p_ ++ (be (((xs.getD ((j).toNat) opt0).2.1).getD ((q).toNat) 0) (szk ((xs.getD ((j).toNat) opt0).1)).toNat)).map (Value.int .u8) by simp)) ?_
          refine X.back ⟨⟨⟨fun _ h => (by cases h; rfl), rfl⟩, trivial⟩, (hG42.trans hG43).le, rfl, ?_⟩
          refine XD.take (i := 11) (l' := (lb 12 4095)) (oA B50 [1, 1, 1, 1, 1, 0, 1, 0, 0, 1, 0, 0, 1, 1, 0, 1, 0, 0, 1, 0, 0] 11) (.v (.slice A44 (m_ + (be (((xs.getD ((j).toNat) opt0).2.1).getD ((q).toNat) 0) (szk ((xs.getD ((j).toNat) opt0).1)).toNat).length) c44)) QOk.ctxG (by kernel_rfl) (by kernel_rfl) (by kernel_rfl) (by kernel_rfl) (by kernel_rfl) ?_
          refine XD.done (by kernel_rfl) ?_
          refine X.run 7 [0, 6, 7, 8, 9] [8] (.ex .normal) [.loop J36, .blk 4, .seq (cA B50 [1, 1, 1, 1, 1, 0, 1, 0, 0, 1, 0, 0, 1, 1, 1]), .blk 3, .seq (cA B50 [1, 1, 1, 1, 1, 0, 1, 0, 0, 1, 1]), .loop J27, .blk 2, .seq (cA B50 [1, 1, 1, 1, 1, 1])] ⟨115, [(0, .v (.slice A xs.length c)), (6, .v (.slice A44 (m_ + (be (((xs.getD ((j).toNat) opt0).2.1).getD ((q).toNat) 0) (szk ((xs.getD ((j).toNat) opt0).1)).toNat).length) c44)), (7, .v (.int .i64 j)), (8, .own 8 0), (9, .v (.int .i64 (IntKind.i64.wrap (q + 1))))], [(8, ⟨65, [.v (.int .i64 ((xs.getD ((j).toNat) opt0).1)), .v (.slice A31 ((xs.getD ((j).toNat) opt0).2.1.length) c31), .v (.string ((xs.getD ((j).toNat) opt0).2.2))]⟩)]⟩ (by kernel_rfl) ?_
          -- again (FFTT)
          refine X.tellR [20] (R' := [(20, ⟨5, 1, .slice A44 (m_ + (be (((xs.getD ((j).toNat) opt0).2.1).getD ((q).toNat) 0) (szk ((xs.getD ((j).toNat) opt0).1)).toNat).length) c44, m_ + (be (((xs.getD ((j).toNat) opt0).2.1).getD ((q).toNat) 0) (szk ((xs.getD ((j).toNat) opt0).1)).toNat).length, (p_ ++ (be (((xs.getD ((j).toNat) opt0).2.1).getD ((q).toNat) 0) (szk ((xs.getD ((j).toNat) opt0).1)).toNat)).map (Value.int .u8)⟩)]) rfl ?_
          have e1 : IntKind.i64.wrap (q + 1) = q + 1 := wi64 (by omega) (by omega)
          have e0 : (q + 1).toNat = q.toNat + 1 := by omega
          exact X.again (hJ36 _ _ _ _ ⟨A44, c44, m_ + (be (((xs.getD ((j).toNat) opt0).2.1).getD ((q).toNat) 0) (szk ((xs.getD ((j).toNat) opt0).1)).toNat).length, p_ ++ (be (((xs.getD ((j).toNat) opt0).2.1).getD ((q).toNat) 0) (szk ((xs.getD ((j).toNat) opt0).1)).toNat), IntKind.i64.wrap (q + 1), rfl, rfl, ((hG36.trans hG42).trans hG43), ⟨by omega, by omega, by rw [e1, e0]; exact put_num hp (by omega) rfl rfl, by rw [List.length_append, ← hmp], by rw [e1]; omega⟩, rfl⟩ (by rw [e1]; omega))
        · -- slot 89: decide (q < (((xs.getD ((j).toNat) opt0).2.1.length : Nat) : Int)) is False
          replace h37 : ¬ (q < (((xs.getD ((j).toNat) opt0).2.1.length : Nat) : Int)) := of_decide_eq_false h37
          refine X.run 10 [0, 6, 7, 103, 105] [] (.ops (aA B50 [1, 1, 1, 1, 1, 0, 1, 0, 0, 1, 0, 0, 1, 1, 1]) (oA B50 [1, 1, 1, 1, 1, 0, 1, 0, 0, 1, 0, 0, 1, 1, 1] 3 :: lA B50 [1, 1, 1, 1, 1, 0, 1, 0, 0, 1, 0, 0, 1, 1, 1] 4)) [.blk 3, .seq (cA B50 [1, 1, 1, 1, 1, 0, 1, 0, 0, 1, 1]), .loop J27, .blk 2, .seq (cA B50 [1, 1, 1, 1, 1, 1])] ⟨115, [(0, .v (.slice A xs.length c)), (6, .v (.slice D_ m_ d_)), (7, .v (.int .i64 j)), (103, .v (.slice D_ m_ d_)), (105, .v (.string ((xs.getD ((j).toNat) opt0).2.2)))], []⟩ (by kernel_rfl) ?_
          refine X.appendStr 20 ⟨5, 1, .slice D_ m_ d_, m_, (p_).map (Value.int .u8)⟩ 22 9 (x := .tmp 103) (y := .tmp 105) (n := m_) (c := d_) (A := D_) (b := (xs.getD ((j).toNat) opt0).2.2) (by kernel_rfl) (by kernel_rfl) (by kernel_rfl) (by kernel_rfl) (by kernel_rfl) (by kernel_rfl) rfl (by kernel_rfl) (.inl rfl) rfl rfl (by omega) ?_
          intro A45 c45 hc45
          refine X.tellR [20] (R' := [(20, ⟨5, 1, .slice A45 (m_ + ((xs.getD ((j).toNat) opt0).2.2).size) c45, m_ + ((xs.getD ((j).toNat) opt0).2.2).size, (p_ ++ bytesL ((xs.getD ((j).toNat) opt0).2.2)).map (Value.int .u8)⟩)]) (congrArg (fun cs_ => (20, (⟨5, 1, .slice A45 (m_ + ((xs.getD ((j).toNat) opt0).2.2).size) c45, m_ + ((xs.getD ((j).toNat) opt0).2.2).size, cs_⟩ : Row)) :: []) (show (p_).map (Value.int .u8) ++ (bytesL ((xs.getD ((j).toNat) opt0).2.2)).map (Value.int .u8) = (p_ ++ bytesL ((xs.getD ((j).toNat) opt0).2.2)).map (Value.int .u8) by simp)) ?_
          refine X.run 9 [0, 6, 7] [] (.ex .normal) [.loop J27, .blk 2, .seq (cA B50 [1, 1, 1, 1, 1, 1])] ⟨115, [(0, .v (.slice A xs.length c)), (6, .v (.slice A45 (m_ + ((xs.getD ((j).toNat) opt0).2.2).size) c45)), (7, .v (.int .i64 (IntKind.i64.wrap (j + 1))))], []⟩ (by kernel_rfl) ?_
          -- again (FFTF)
          have e1 : IntKind.i64.wrap (j + 1) = j + 1 := wi64 (by omega) (by omega)
          have e0 : (j + 1).toNat = j.toNat + 1 := by omega
          have hpd_ := put_done hp (by omega)
          exact X.again (hJ27 _ _ _ _ ⟨A45, c45, m_ + ((xs.getD ((j).toNat) opt0).2.2).size, p_ ++ bytesL ((xs.getD ((j).toNat) opt0).2.2), IntKind.i64.wrap (j + 1), rfl, rfl, ((hG27.trans hG33).trans hG36), ⟨by omega, by omega, by rw [e1, e0, bodyO_step (by omega), ← hl]; exact hpd_, by rw [List.length_append, ← hmp, bytesL_length]⟩, rfl⟩ (by rw [e1]; omega))
      · -- slot 59: decide (j < ((xs.length : Nat) : Int)) is False
        replace h28 : ¬ (j < ((xs.length : Nat) : Int)) := of_decide_eq_false h28
        refine X.run 8 [6] [] (.code (cA B50 [1, 1, 1, 1, 1, 1, 0, 0])) [.blk 6, .seq (cA B50 [1, 1, 1, 1, 1, 1, 1])] ⟨115, [(6, .v (.slice B_ n_ c_))], []⟩ (by kernel_rfl) ?_
        rw [List.take_of_length_le (show xs.length ≤ j.toNat by omega)] at hl hn
        have hnl2_ : n_ = l_.length := by have hb_ := bodyO_len xs; rw [← hl] at hb_; omega
        refine X.loopJ (fun m s R' G' => ∃ (E_ : Option Addr) (f_ o_ : Nat) (r_ : List Int), s = ⟨115, [(6, .v (.slice E_ o_ f_))], []⟩ ∧ R' = [(20, ⟨5, 1, .slice E_ o_ f_, o_, (r_).map (Value.int .u8)⟩)] ∧ G27 = G' ∧ (padZ r_ = padZ (bodyO xs) ∧ o_ = r_.length ∧ o_ + (4 - o_ % 4) % 4 ≤ 44) ∧ m = (4 - o_ % 4) % 4) _ ⟨B_, c_, n_, l_, rfl, rfl, rfl, ⟨by rw [hl], hnl2_, by omega⟩, rfl⟩ ?_
        rintro m46 s46 R46 G46 ⟨E_, f_, o_, r_, rfl, rfl, rfl, hF46, rfl⟩ J46 hJ46
        obtain ⟨hpad, hn2, hob⟩ := hF46
        refine X.run 6 [6, 109] [] (.ops (aA B50 [1, 1, 1, 1, 1, 1, 0, 0, 0, 0, 0]) (oA B50 [1, 1, 1, 1, 1, 1, 0, 0, 0, 0, 0] 3 :: lA B50 [1, 1, 1, 1, 1, 1, 0, 0, 0, 0, 0] 4)) [.seq (cA B50 [1, 1, 1, 1, 1, 1, 0, 0, 0, 0, 1]), .seq (cA B50 [1, 1, 1, 1, 1, 1, 0, 0, 0, 1]), .loop J46, .blk 6, .seq (cA B50 [1, 1, 1, 1, 1, 1, 1])] ⟨115, [(6, .v (.slice E_ o_ f_)), (109, .v (.int .i64 (Int.tmod ((o_ : Nat) : Int) 4)))], []⟩ (by kernel_rfl) ?_
        refine X.known 109 (y := .v (.int .i64 (((o_ : Nat) : Int) % 4))) rfl (congrArg (fun z_ => AV.v (.int .i64 z_)) (Int.tmod_eq_emod_of_nonneg (by omega))) ?_
        refine X.run 3 [6, 110] [] (.code (cA B50 [1, 1, 1, 1, 1, 1, 0, 0, 0, 0, 1])) [.seq (cA B50 [1, 1, 1, 1, 1, 1, 0, 0, 0, 1]), .loop J46, .blk 6, .seq (cA B50 [1, 1, 1, 1, 1, 1, 1])] ⟨115, [(6, .v (.slice E_ o_ f_)), (110, .v (.bool ((((o_ : Nat) : Int) % 4) != 0)))], []⟩ (by kernel_rfl) ?_
        refine X.split 110 rfl (fun h47 => ?_) (fun h47 => ?_)
        · -- slot 110: (((o_ : Nat) : Int) % 4) != 0 is True
          replace h47 : (((o_ : Nat) : Int) % 4) ≠ 0 := by simpa using h47
          refine X.run 6 [6, 111] [] (.ops (aA B50 [1, 1, 1, 1, 1, 1, 0, 0, 0, 1, 0]) (oA B50 [1, 1, 1, 1, 1, 1, 0, 0, 0, 1, 0] 1 :: lA B50 [1, 1, 1, 1, 1, 1, 0, 0, 0, 1, 0] 2)) [.blk 7, .loop J46, .blk 6, .seq (cA B50 [1, 1, 1, 1, 1, 1, 1])] ⟨115, [(6, .v (.slice E_ o_ f_)), (111, .v (.slice E_ o_ f_))], []⟩ (by kernel_rfl) ?_
          refine X.lit 112 5 1 1 [.int .u8 0] (by kernel_rfl) (fun g => by kernel_rfl) ?_
          intro A48
          refine X.append 20 ⟨5, 1, .slice E_ o_ f_, o_, (r_).map (Value.int .u8)⟩ 22 1 (.int .u8 0) (x := .tmp 111) (y := .tmp 112) (n := o_) (c := f_) (m := 1) (c2 := 1) (A := E_) (B := A48) (news := [.int .u8 0]) (by kernel_rfl) (by kernel_rfl) (by kernel_rfl) (by kernel_rfl) (by kernel_rfl) rfl (Nat.succ_pos _) (by kernel_rfl) (.inl rfl) rfl rfl (by kernel_rfl) (At.of_row (i := 112) (r := ⟨5, 1, .slice A48 1 1, 1, [.int .u8 0]⟩) rfl rfl) (fun w hw e => absurd (rowSome (i := 112) (q := ⟨5, 1, .slice A48 1 1, 1, [.int .u8 0]⟩) rfl rfl (Nat.succ_pos _) w hw) (by rw [e]; decide)) (ones (by kernel_rfl)) (by omega) (by decide) ?_
          intro A49 c49 hc49
          refine X.tellR [20, 112] (R' := [(20, ⟨5, 1, .slice A49 (o_ + 1) c49, o_ + 1, (r_ ++ [0]).map (Value.int .u8)⟩), (112, ⟨5, 1, .slice A48 1 1, 1, [.int .u8 0]⟩)]) (congrArg (fun cs_ => (20, (⟨5, 1, .slice A49 (o_ + 1) c49, o_ + 1, cs_⟩ : Row)) :: [(112, ⟨5, 1, .slice A48 1 1, 1, [.int .u8 0]⟩)]) (show (r_).map (Value.int .u8) ++ [.int .u8 0] = (r_ ++ [0]).map (Value.int .u8) by simp)) ?_
          refine X.run 3 [6] [] (.ex .normal) [.loop J46, .blk 6, .seq (cA B50 [1, 1, 1, 1, 1, 1, 1])] ⟨115, [(6, .v (.slice A49 (o_ + 1) c49))], []⟩ (by kernel_rfl) ?_
          -- again (FFFT)
          refine X.tellR [20] (R' := [(20, ⟨5, 1, .slice A49 (o_ + 1) c49, o_ + 1, (r_ ++ [0]).map (Value.int .u8)⟩)]) rfl ?_
          exact X.again (hJ46 _ _ _ _ ⟨A49, c49, o_ + 1, r_ ++ [0], rfl, rfl, rfl, ⟨by rw [padZ_step (by omega)]; exact hpad, by simp [hn2], by omega⟩, rfl⟩ (by omega))
        · -- slot 110: (((o_ : Nat) : Int) % 4) != 0 is False
          replace h47 : (((o_ : Nat) : Int) % 4) = 0 := by simpa using h47
          refine X.run 14 [2, 3] [] (.ex .ret) [] ⟨115, [(2, .v (.slice E_ o_ f_)), (3, .v (.int .i64 0))], []⟩ (by kernel_rfl) ?_
          refine doneG (.inl rfl) [.slice E_ o_ f_, .int .i64 0] [20] (by kernel_rfl) rfl rfl ((hG1.trans hG27)) ?_
          -- end 4 (FFFF)
          have he_ : errO xs = 0 := errO_ok hc_ (by omega)
          have hp_ : printO xs = r_ := printO_yes (l := xs) he_ hpad (by omega)
          rw [hp_, he_, ← hn2]
          exact ⟨E_, f_, rfl, rfl⟩
end Go.Proofs.YtjgpdbkkpomhjaaX
