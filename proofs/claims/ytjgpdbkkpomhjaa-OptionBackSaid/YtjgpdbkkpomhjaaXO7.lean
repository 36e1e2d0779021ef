/- leatlaw12.Few, option.shape, leatref12.size -/
import Derived.Test.YtjgpdbkkpomhjaaProg
import Derived.KernelRfl
import Derived.Test.YtjgpdbkkpomhjaaXO6
namespace Go.Proofs.YtjgpdbkkpomhjaaX
open Go.RowKit
set_option linter.unusedVariables false
set_option linter.unusedSimpArgs false
set_option maxRecDepth 100000
set_option maxHeartbeats 1000000 in
theorem Few_ok (A : Option Addr) (c : Nat) (xs : List Opt) (G : Mem) (hr : rowAt optD G A xs) (hle : xs.length ≤ c) (hmx : c ≤ maxLen) : CallsG Try.prog 48 [.slice A xs.length c] G (fun G' v rows => ∃ A' c' cs, v = .slice A' (fewO xs).length c' ∧ rows = [⟨65, 3, .slice A' (fewO xs).length c', (fewO xs).length, cs⟩] ∧ repsD optD G' (fewO xs) cs) := by
  simp only [maxLen] at hmx
  refine CallsG.enter Try.func48 rfl rfl ?_
  intro w
  refine X.run 17 [0, 2, 3, 4] [] (.code (cA B48 [1, 1, 0, 1, 0])) [.blk 0, .seq (cA B48 [1, 1, 1])] ⟨51, [(0, .v (.slice A xs.length c)), (2, .v (.slice none 0 0)), (3, .v (.slice none 0 0)), (4, .v (.int .i64 0))], []⟩ (by kernel_rfl) ?_
  refine X.nilRow 24 65 3 rfl ?_
  refine X.loopJ (fun m s R' G' => ∃ (B_ : Option Addr) (c_ n_ : Nat) (cs_ : List Value) (i : Int), s = ⟨51, [(0, .v (.slice A xs.length c)), (2, .v (.slice none 0 0)), (3, .v (.slice B_ n_ c_)), (4, .v (.int .i64 i))], []⟩ ∧ R' = [(24, ⟨65, 3, .slice B_ n_ c_, n_, cs_⟩)] ∧ G = G' ∧ (0 ≤ i ∧ i ≤ (xs.length : Int) ∧ i ≤ 12 ∧ (n_ : Int) = i ∧ repsD optD G ((xs.take i.toNat).map cutO) cs_) ∧ m = ((xs.length : Int) - i).toNat) _ ⟨none, 0, 0, [], 0, rfl, rfl, rfl, ⟨by omega, by omega, by omega, rfl, rfl⟩, rfl⟩ ?_
  rintro m1 s1 R1 G1 ⟨B_, c_, n_, cs_, i, rfl, rfl, rfl, hF1, rfl⟩ J1 hJ1
  obtain ⟨hi0, hi1, hi2, hn, hcs⟩ := hF1
  refine X.run 8 [0, 2, 3, 4, 9] [] (.ops (aA B48 [1, 1, 0, 1, 0, 0, 0, 0]) (oA B48 [1, 1, 0, 1, 0, 0, 0, 0] 5 :: lA B48 [1, 1, 0, 1, 0, 0, 0, 0] 6)) [.seq (cA B48 [1, 1, 0, 1, 0, 0, 0, 1]), .seq (cA B48 [1, 1, 0, 1, 0, 0, 1]), .loop J1, .blk 0, .seq (cA B48 [1, 1, 1])] ⟨51, [(0, .v (.slice A xs.length c)), (2, .v (.slice none 0 0)), (3, .v (.slice B_ n_ c_)), (4, .v (.int .i64 i)), (9, .v (.bool (decide (i < ((xs.length : Nat) : Int)))))], []⟩ (by kernel_rfl) ?_
  refine X.split 9 rfl (fun h2 => ?_) (fun h2 => ?_)
  · -- slot 9: decide (i < ((xs.length : Nat) : Int)) is True
    replace h2 : i < ((xs.length : Nat) : Int) := of_decide_eq_true h2
    refine X.run 5 [0, 2, 3, 4, 12] [] (.code (cA B48 [1, 1, 0, 1, 0, 0, 0, 1])) [.seq (cA B48 [1, 1, 0, 1, 0, 0, 1]), .loop J1, .blk 0, .seq (cA B48 [1, 1, 1])] ⟨51, [(0, .v (.slice A xs.length c)), (2, .v (.slice none 0 0)), (3, .v (.slice B_ n_ c_)), (4, .v (.int .i64 i)), (12, .v (.bool (decide (i < 12))))], []⟩ (by kernel_rfl) ?_
    refine X.split 12 rfl (fun h3 => ?_) (fun h3 => ?_)
    · -- slot 12: decide (i < 12) is True
      replace h3 : i < 12 := of_decide_eq_true h3
      refine X.run 5 [0, 2, 3, 4] [] (.code (cA B48 [1, 1, 0, 1, 0, 0, 1, 0, 0])) [.blk 1, .seq (cA B48 [1, 1, 0, 1, 0, 0, 1, 1]), .loop J1, .blk 0, .seq (cA B48 [1, 1, 1])] ⟨51, [(0, .v (.slice A xs.length c)), (2, .v (.slice none 0 0)), (3, .v (.slice B_ n_ c_)), (4, .v (.int .i64 i))], []⟩ (by kernel_rfl) ?_
      have hr_d4 := hr
      refine XD.open (id := 5) (arr := aA B48 [1, 1, 0, 1, 0, 0, 1, 0, 0]) 36 [] [] [] (by kernel_rfl) (by kernel_rfl) (by kernel_rfl) (by kernel_rfl) (by kernel_rfl) trivial (by simp) rfl (fun ρ0 => ?_)
      refine XD.take (i := 0) (l' := (lb 36 1)) (oA B48 [1, 1, 0, 1, 0, 0, 1, 0, 0] 0) (.v (.slice B_ n_ c_)) QOk.ctxG (by kernel_rfl) (by kernel_rfl) (by kernel_rfl) (by kernel_rfl) (by kernel_rfl) ?_
      refine XD.take (i := 1) (l' := (lb 36 3)) (oA B48 [1, 1, 0, 1, 0, 0, 1, 0, 0] 1) (.v (.slice A xs.length c)) QOk.ctxG (by kernel_rfl) (by kernel_rfl) (by kernel_rfl) (by kernel_rfl) (by kernel_rfl) ?_
      refine XD.take (i := 2) (l' := (lb 36 7)) (oA B48 [1, 1, 0, 1, 0, 0, 1, 0, 0] 2) (.v (.int .i64 i)) QOk.ctxG (by kernel_rfl) (by kernel_rfl) (by kernel_rfl) (by kernel_rfl) (by kernel_rfl) ?_
      have b5 : (0 : Int) ≤ i := by omega
      have b6 : i < ((xs.length : Nat) : Int) := by omega
      obtain ⟨A7, c7, at7, kr7, le7, mx7, hr7⟩ := At.opt [] hr_d4 ((i).toNat) (by omega)
      simp only [IntKind.lo, IntKind.hi, maxLen] at kr7 mx7
      refine XD.index (i := 3) (l' := (lb 36 15)) (o := (oA B48 [1, 1, 0, 1, 0, 0, 1, 0, 0] 3)) (t := 59) (e := 65) (sz := 3) (A := A) (n := xs.length) (c := c) (ki := .i64) (j := i) (x := .tmp 16) (ix := .tmp 17) QOk.ctxG (by kernel_rfl) (by kernel_rfl) (by kernel_rfl) (by kernel_rfl) (by kernel_rfl) (by kernel_rfl) (by kernel_rfl) (by kernel_rfl) b5 b6 (fun _ _ => rowAt.so hr_d4 (by omega)) (by kernel_rfl) ?_
      refine XD.field (i := 4) (l' := (lb 36 31)) (o := (oA B48 [1, 1, 0, 1, 0, 0, 1, 0, 0] 4)) (t := 65) (f := 0) (n := 0) (A := A) (j := (i).toNat * 3) (x := .tmp 18) QOk.ctxG (by kernel_rfl) (by kernel_rfl) (by kernel_rfl) (by kernel_rfl) (by kernel_rfl) (by kernel_rfl) (by kernel_rfl) ?_
      refine XD.load (i := 5) (l' := (lb 36 63)) (o := (oA B48 [1, 1, 0, 1, 0, 0, 1, 0, 0] 5)) (t := 3) (A := A) (j := (i).toNat * 3 + 0) (x := .tmp 19) (z := .int .i64 ((xs.getD ((i).toNat) opt0).1)) [.int .i64 ((xs.getD ((i).toNat) opt0).1)] QOk.ctxG (by kernel_rfl) (by kernel_rfl) (by kernel_rfl) (by kernel_rfl) (by kernel_rfl) (at7.part 0 1) (by kernel_rfl) (by kernel_rfl) ?_
      refine XD.take (i := 6) (l' := (lb 36 127)) (oA B48 [1, 1, 0, 1, 0, 0, 1, 0, 0] 6) (.v (.slice A xs.length c)) QOk.ctxG (by kernel_rfl) (by kernel_rfl) (by kernel_rfl) (by kernel_rfl) (by kernel_rfl) ?_
      refine XD.take (i := 7) (l' := (lb 36 255)) (oA B48 [1, 1, 0, 1, 0, 0, 1, 0, 0] 7) (.v (.int .i64 i)) QOk.ctxG (by kernel_rfl) (by kernel_rfl) (by kernel_rfl) (by kernel_rfl) (by kernel_rfl) ?_
      have b8 : (0 : Int) ≤ i := by omega
      have b9 : i < ((xs.length : Nat) : Int) := by omega
      obtain ⟨A10, c10, at10, kr10, le10, mx10, hr10⟩ := At.opt [] hr_d4 ((i).toNat) (by omega)
      simp only [IntKind.lo, IntKind.hi, maxLen] at kr10 mx10
      refine XD.index (i := 8) (l' := (lb 36 511)) (o := (oA B48 [1, 1, 0, 1, 0, 0, 1, 0, 0] 8)) (t := 59) (e := 65) (sz := 3) (A := A) (n := xs.length) (c := c) (ki := .i64) (j := i) (x := .tmp 21) (ix := .tmp 22) QOk.ctxG (by kernel_rfl) (by kernel_rfl) (by kernel_rfl) (by kernel_rfl) (by kernel_rfl) (by kernel_rfl) (by kernel_rfl) (by kernel_rfl) b8 b9 (fun _ _ => rowAt.so hr_d4 (by omega)) (by kernel_rfl) ?_
      refine XD.field (i := 9) (l' := (lb 36 1023)) (o := (oA B48 [1, 1, 0, 1, 0, 0, 1, 0, 0] 9)) (t := 65) (f := 1) (n := 1) (A := A) (j := (i).toNat * 3) (x := .tmp 23) QOk.ctxG (by kernel_rfl) (by kernel_rfl) (by kernel_rfl) (by kernel_rfl) (by kernel_rfl) (by kernel_rfl) (by kernel_rfl) ?_
      refine XD.load (i := 10) (l' := (lb 36 2047)) (o := (oA B48 [1, 1, 0, 1, 0, 0, 1, 0, 0] 10)) (t := 63) (A := A) (j := (i).toNat * 3 + 1) (x := .tmp 24) (z := .slice A10 ((xs.getD ((i).toNat) opt0).2.1.length) c10) [.slice A10 ((xs.getD ((i).toNat) opt0).2.1.length) c10] QOk.ctxG (by kernel_rfl) (by kernel_rfl) (by kernel_rfl) (by kernel_rfl) (by kernel_rfl) (at10.part 1 1) (by kernel_rfl) (by kernel_rfl) ?_
      refine XD.take (i := 11) (l' := (lb 36 4095)) (oA B48 [1, 1, 0, 1, 0, 0, 1, 0, 0] 11) (.v (.slice A xs.length c)) QOk.ctxG (by kernel_rfl) (by kernel_rfl) (by kernel_rfl) (by kernel_rfl) (by kernel_rfl) ?_
      refine XD.take (i := 12) (l' := (lb 36 8191)) (oA B48 [1, 1, 0, 1, 0, 0, 1, 0, 0] 12) (.v (.int .i64 i)) QOk.ctxG (by kernel_rfl) (by kernel_rfl) (by kernel_rfl) (by kernel_rfl) (by kernel_rfl) ?_
      have b11 : (0 : Int) ≤ i := by omega
      have b12 : i < ((xs.length : Nat) : Int) := by omega
      obtain ⟨A13, c13, at13, kr13, le13, mx13, hr13⟩ := At.opt [] hr_d4 ((i).toNat) (by omega)
      simp only [IntKind.lo, IntKind.hi, maxLen] at kr13 mx13
      refine XD.index (i := 13) (l' := (lb 36 16383)) (o := (oA B48 [1, 1, 0, 1, 0, 0, 1, 0, 0] 13)) (t := 59) (e := 65) (sz := 3) (A := A) (n := xs.length) (c := c) (ki := .i64) (j := i) (x := .tmp 26) (ix := .tmp 27) QOk.ctxG (by kernel_rfl) (by kernel_rfl) (by kernel_rfl) (by kernel_rfl) (by kernel_rfl) (by kernel_rfl) (by kernel_rfl) (by kernel_rfl) b11 b12 (fun _ _ => rowAt.so hr_d4 (by omega)) (by kernel_rfl) ?_
      refine XD.field (i := 14) (l' := (lb 36 32767)) (o := (oA B48 [1, 1, 0, 1, 0, 0, 1, 0, 0] 14)) (t := 65) (f := 1) (n := 1) (A := A) (j := (i).toNat * 3) (x := .tmp 28) QOk.ctxG (by kernel_rfl) (by kernel_rfl) (by kernel_rfl) (by kernel_rfl) (by kernel_rfl) (by kernel_rfl) (by kernel_rfl) ?_
      refine XD.load (i := 15) (l' := (lb 36 65535)) (o := (oA B48 [1, 1, 0, 1, 0, 0, 1, 0, 0] 15)) (t := 63) (A := A) (j := (i).toNat * 3 + 1) (x := .tmp 29) (z := .slice A13 ((xs.getD ((i).toNat) opt0).2.1.length) c13) [.slice A13 ((xs.getD ((i).toNat) opt0).2.1.length) c13] QOk.ctxG (by kernel_rfl) (by kernel_rfl) (by kernel_rfl) (by kernel_rfl) (by kernel_rfl) (at13.part 1 1) (by kernel_rfl) (by kernel_rfl) ?_
      refine XD.take (i := 16) (l' := (lb 36 131071)) (oA B48 [1, 1, 0, 1, 0, 0, 1, 0, 0] 16) (.v (.int .i64 (((xs.getD ((i).toNat) opt0).2.1.length : Nat) : Int))) QOk.ctxG (by kernel_rfl) (by kernel_rfl) (by kernel_rfl) (by kernel_rfl) (by kernel_rfl) ?_
      refine XD.take (i := 17) (l' := (lb 36 262143)) (oA B48 [1, 1, 0, 1, 0, 0, 1, 0, 0] 17) (.v (.int .i64 (imin (((xs.getD ((i).toNat) opt0).2.1.length : Nat) : Int) 12))) QOk.ctxG (by kernel_rfl) (by kernel_rfl) (by kernel_rfl) (by kernel_rfl) (by kernel_rfl) ?_
      have hlo14 : 0 ≤ (imin (((xs.getD ((i).toNat) opt0).2.1.length : Nat) : Int) 12).toNat := by simp only [imin_eq]; omega
      have hhi14 : (imin (((xs.getD ((i).toNat) opt0).2.1.length : Nat) : Int) 12).toNat ≤ (xs.getD ((i).toNat) opt0).2.1.length := by simp only [imin_eq]; omega
      refine XD.cut (i := 18) (l' := (lb 36 524287)) (o := (oA B48 [1, 1, 0, 1, 0, 0, 1, 0, 0] 18)) (t := 63) (e := 29) (sz := 1) (n := (xs.getD ((i).toNat) opt0).2.1.length) (c := c10) (A := A10) (x := .tmp 25) (l0 := none) (h := (some (.tmp 32))) (lv := none) (hv := (some (.int .i64 (imin (((xs.getD ((i).toNat) opt0).2.1.length : Nat) : Int) 12)))) 0 ((imin (((xs.getD ((i).toNat) opt0).2.1.length : Nat) : Int) 12).toNat) QOk.ctxG (by kernel_rfl) (by kernel_rfl) (by kernel_rfl) (by kernel_rfl) (by kernel_rfl) (by kernel_rfl) (by kernel_rfl) (by kernel_rfl) (by kernel_rfl) (rfl) (⟨_, _, rfl, by simp only [imin_eq]; omega, rfl⟩) hlo14 (Nat.le_trans hhi14 le10) (by kernel_rfl) ?_
      obtain ⟨A14, hA14⟩ : ∃ A_, cutA A10 c10 0 1 = A_ := ⟨_, rfl⟩
      obtain ⟨ys14, hys14⟩ : ∃ l_, (((xs.getD ((i).toNat) opt0).2.1).take ((imin (((xs.getD ((i).toNat) opt0).2.1.length : Nat) : Int) 12).toNat)).drop 0 = l_ := ⟨_, rfl⟩
      have hr14 : rowAt (D.int .u32) G (cutA A10 c10 0 1) ((((xs.getD ((i).toNat) opt0).2.1).take ((imin (((xs.getD ((i).toNat) opt0).2.1.length : Nat) : Int) 12).toNat)).drop 0) := rowAt_cut hr10 hlo14 hhi14 le10
      have hl14 : ((imin (((xs.getD ((i).toNat) opt0).2.1.length : Nat) : Int) 12).toNat) - 0 = ys14.length := by rw [← hys14, List.length_drop, List.length_take]; omega
      have hc14 : ys14.length ≤ c10 - 0 := by omega
      have hm14 : c10 - 0 ≤ maxLen := Nat.le_trans (Nat.sub_le _ _) mx10
      rw [hys14, show cutA A10 c10 0 _ = A14 from hA14] at hr14
      rw [hA14, hl14]
      refine XD.take (i := 19) (l' := (lb 36 1048575)) (oA B48 [1, 1, 0, 1, 0, 0, 1, 0, 0] 19) (.v (.slice A xs.length c)) QOk.ctxG (by kernel_rfl) (by kernel_rfl) (by kernel_rfl) (by kernel_rfl) (by kernel_rfl) ?_
      refine XD.take (i := 20) (l' := (lb 36 2097151)) (oA B48 [1, 1, 0, 1, 0, 0, 1, 0, 0] 20) (.v (.int .i64 i)) QOk.ctxG (by kernel_rfl) (by kernel_rfl) (by kernel_rfl) (by kernel_rfl) (by kernel_rfl) ?_
      have b15 : (0 : Int) ≤ i := by omega
      have b16 : i < ((xs.length : Nat) : Int) := by omega
      obtain ⟨A17, c17, at17, kr17, le17, mx17, hr17⟩ := At.opt [] hr_d4 ((i).toNat) (by omega)
      simp only [IntKind.lo, IntKind.hi, maxLen] at kr17 mx17
      refine XD.index (i := 21) (l' := (lb 36 4194303)) (o := (oA B48 [1, 1, 0, 1, 0, 0, 1, 0, 0] 21)) (t := 59) (e := 65) (sz := 3) (A := A) (n := xs.length) (c := c) (ki := .i64) (j := i) (x := .tmp 34) (ix := .tmp 35) QOk.ctxG (by kernel_rfl) (by kernel_rfl) (by kernel_rfl) (by kernel_rfl) (by kernel_rfl) (by kernel_rfl) (by kernel_rfl) (by kernel_rfl) b15 b16 (fun _ _ => rowAt.so hr_d4 (by omega)) (by kernel_rfl) ?_
      refine XD.field (i := 22) (l' := (lb 36 8388607)) (o := (oA B48 [1, 1, 0, 1, 0, 0, 1, 0, 0] 22)) (t := 65) (f := 2) (n := 2) (A := A) (j := (i).toNat * 3) (x := .tmp 36) QOk.ctxG (by kernel_rfl) (by kernel_rfl) (by kernel_rfl) (by kernel_rfl) (by kernel_rfl) (by kernel_rfl) (by kernel_rfl) ?_
      refine XD.load (i := 23) (l' := (lb 36 16777215)) (o := (oA B48 [1, 1, 0, 1, 0, 0, 1, 0, 0] 23)) (t := 9) (A := A) (j := (i).toNat * 3 + 2) (x := .tmp 37) (z := .string ((xs.getD ((i).toNat) opt0).2.2)) [.string ((xs.getD ((i).toNat) opt0).2.2)] QOk.ctxG (by kernel_rfl) (by kernel_rfl) (by kernel_rfl) (by kernel_rfl) (by kernel_rfl) (at17.part 2 1) (by kernel_rfl) (by kernel_rfl) ?_
      refine XD.take (i := 24) (l' := (lb 36 33554431)) (oA B48 [1, 1, 0, 1, 0, 0, 1, 0, 0] 24) (.v (.slice A xs.length c)) QOk.ctxG (by kernel_rfl) (by kernel_rfl) (by kernel_rfl) (by kernel_rfl) (by kernel_rfl) ?_
      refine XD.take (i := 25) (l' := (lb 36 67108863)) (oA B48 [1, 1, 0, 1, 0, 0, 1, 0, 0] 25) (.v (.int .i64 i)) QOk.ctxG (by kernel_rfl) (by kernel_rfl) (by kernel_rfl) (by kernel_rfl) (by kernel_rfl) ?_
      have b18 : (0 : Int) ≤ i := by omega
      have b19 : i < ((xs.length : Nat) : Int) := by omega
      obtain ⟨A20, c20, at20, kr20, le20, mx20, hr20⟩ := At.opt [] hr_d4 ((i).toNat) (by omega)
      simp only [IntKind.lo, IntKind.hi, maxLen] at kr20 mx20
      refine XD.index (i := 26) (l' := (lb 36 134217727)) (o := (oA B48 [1, 1, 0, 1, 0, 0, 1, 0, 0] 26)) (t := 59) (e := 65) (sz := 3) (A := A) (n := xs.length) (c := c) (ki := .i64) (j := i) (x := .tmp 39) (ix := .tmp 40) QOk.ctxG (by kernel_rfl) (by kernel_rfl) (by kernel_rfl) (by kernel_rfl) (by kernel_rfl) (by kernel_rfl) (by kernel_rfl) (by kernel_rfl) b18 b19 (fun _ _ => rowAt.so hr_d4 (by omega)) (by kernel_rfl) ?_
      refine XD.field (i := 27) (l' := (lb 36 268435455)) (o := (oA B48 [1, 1, 0, 1, 0, 0, 1, 0, 0] 27)) (t := 65) (f := 2) (n := 2) (A := A) (j := (i).toNat * 3) (x := .tmp 41) QOk.ctxG (by kernel_rfl) (by kernel_rfl) (by kernel_rfl) (by kernel_rfl) (by kernel_rfl) (by kernel_rfl) (by kernel_rfl) ?_
      refine XD.load (i := 28) (l' := (lb 36 536870911)) (o := (oA B48 [1, 1, 0, 1, 0, 0, 1, 0, 0] 28)) (t := 9) (A := A) (j := (i).toNat * 3 + 2) (x := .tmp 42) (z := .string ((xs.getD ((i).toNat) opt0).2.2)) [.string ((xs.getD ((i).toNat) opt0).2.2)] QOk.ctxG (by kernel_rfl) (by kernel_rfl) (by kernel_rfl) (by kernel_rfl) (by kernel_rfl) (at20.part 2 1) (by kernel_rfl) (by kernel_rfl) ?_
      refine XD.take (i := 29) (l' := (lb 36 1073741823)) (oA B48 [1, 1, 0, 1, 0, 0, 1, 0, 0] 29) (.v (.int .i64 (((xs.getD ((i).toNat) opt0).2.2).size : Int))) QOk.ctxG (by kernel_rfl) (by kernel_rfl) (by kernel_rfl) (by kernel_rfl) (by kernel_rfl) ?_
      refine XD.take (i := 30) (l' := (lb 36 2147483647)) (oA B48 [1, 1, 0, 1, 0, 0, 1, 0, 0] 30) (.v (.int .i64 (imin (((xs.getD ((i).toNat) opt0).2.2).size : Int) 60))) QOk.ctxG (by kernel_rfl) (by kernel_rfl) (by kernel_rfl) (by kernel_rfl) (by kernel_rfl) ?_
      refine XD.cutStr (i := 31) (l' := (lb 36 4294967295)) (oA B48 [1, 1, 0, 1, 0, 0, 1, 0, 0] 31) (t := 9) (b := (xs.getD ((i).toNat) opt0).2.2) (x := .tmp 38) (l0 := none) (h := (some (.tmp 45))) (lv := none) (hv := (some (.int .i64 (imin (((xs.getD ((i).toNat) opt0).2.2).size : Int) 60)))) 0 ((imin (((xs.getD ((i).toNat) opt0).2.2).size : Int) 60).toNat) QOk.ctxG (by kernel_rfl) (by kernel_rfl) (by kernel_rfl) (by kernel_rfl) (by kernel_rfl) (by kernel_rfl) (by kernel_rfl) (by kernel_rfl) (rfl) (⟨_, _, rfl, by simp only [imin_eq]; omega, rfl⟩) (by simp only [imin_eq]; omega) (by simp only [imin_eq]; omega) (by kernel_rfl) ?_
      refine XD.take (i := 32) (l' := (lb 36 8589934591)) (oA B48 [1, 1, 0, 1, 0, 0, 1, 0, 0] 32) (.v (.agg #[.int .i64 ((xs.getD ((i).toNat) opt0).1), .slice A14 ys14.length (c10 - 0), .string (((xs.getD ((i).toNat) opt0).2.2).extract 0 ((imin (((xs.getD ((i).toNat) opt0).2.2).size : Int) 60).toNat))])) QOk.ctxG (by kernel_rfl) (by kernel_rfl) (by kernel_rfl) (by kernel_rfl) (by kernel_rfl) ?_
      refine XD.norm [0, 2, 3, 4, 15, 47] [] ⟨51, [(0, .v (.slice A xs.length c)), (2, .v (.slice none 0 0)), (3, .v (.slice B_ n_ c_)), (4, .v (.int .i64 i)), (15, .v (.slice B_ n_ c_)), (47, .v (.agg #[.int .i64 ((xs.getD ((i).toNat) opt0).1), .slice A14 ys14.length (c10 - 0), .string (((xs.getD ((i).toNat) opt0).2.2).extract 0 ((imin (((xs.getD ((i).toNat) opt0).2.2).size : Int) 60).toNat))]))], []⟩ (by kernel_rfl) trivial ?_
      refine XD.one (i := 33) (l' := (lb 36 17179869183)) (oA B48 [1, 1, 0, 1, 0, 0, 1, 0, 0] 33) (by kernel_rfl) (by kernel_rfl) (by kernel_rfl) ?_
      refine X.lit 48 65 3 1 [.int .i64 ((xs.getD ((i).toNat) opt0).1), .slice A14 ys14.length (c10 - 0), .string (((xs.getD ((i).toNat) opt0).2.2).extract 0 ((imin (((xs.getD ((i).toNat) opt0).2.2).size : Int) 60).toNat))] (by kernel_rfl) (fun g => by kernel_rfl) ?_
      intro A21
      refine X.back ⟨trivial, Le.refl _, rfl, ?_⟩
      refine XD.norm [0, 2, 3, 4, 15, 48] [] ⟨51, [(0, .v (.slice A xs.length c)), (2, .v (.slice none 0 0)), (3, .v (.slice B_ n_ c_)), (4, .v (.int .i64 i)), (15, .v (.slice B_ n_ c_)), (48, .v (.slice A21 1 1))], []⟩ (by kernel_rfl) trivial ?_
      refine XD.one (i := 34) (l' := (lb 36 34359738367)) (oA B48 [1, 1, 0, 1, 0, 0, 1, 0, 0] 34) (by kernel_rfl) (by kernel_rfl) (by kernel_rfl) ?_
      refine X.append 24 ⟨65, 3, .slice B_ n_ c_, n_, cs_⟩ 59 48 (.agg #[.int .i64 0, .slice none 0 0, .string ByteArray.empty]) (x := .tmp 15) (y := .tmp 48) (n := n_) (c := c_) (m := 1) (c2 := 1) (A := B_) (B := A21) (news := [.int .i64 ((xs.getD ((i).toNat) opt0).1), .slice A14 ys14.length (c10 - 0), .string (((xs.getD ((i).toNat) opt0).2.2).extract 0 ((imin (((xs.getD ((i).toNat) opt0).2.2).size : Int) 60).toNat))]) (by kernel_rfl) (by kernel_rfl) (by kernel_rfl) (by kernel_rfl) (by kernel_rfl) rfl (Nat.succ_pos _) (by kernel_rfl) (.inl rfl) rfl rfl (by kernel_rfl) (At.of_row (i := 48) (r := ⟨65, 3, .slice A21 1 1, 1, [.int .i64 ((xs.getD ((i).toNat) opt0).1), .slice A14 ys14.length (c10 - 0), .string (((xs.getD ((i).toNat) opt0).2.2).extract 0 ((imin (((xs.getD ((i).toNat) opt0).2.2).size : Int) 60).toNat))]⟩) rfl rfl) (fun w hw e => absurd (rowSome (i := 48) (q := ⟨65, 3, .slice A21 1 1, 1, [.int .i64 ((xs.getD ((i).toNat) opt0).1), .slice A14 ys14.length (c10 - 0), .string (((xs.getD ((i).toNat) opt0).2.2).extract 0 ((imin (((xs.getD ((i).toNat) opt0).2.2).size : Int) 60).toNat))]⟩) rfl rfl (Nat.succ_pos _) w hw) (by rw [e]; decide)) (ones (by kernel_rfl)) (by omega) (by decide) ?_
      intro A22 c22 hc22
      refine X.tellR [24, 48] (R' := [(24, ⟨65, 3, .slice A22 (n_ + 1) c22, n_ + 1, cs_ ++ [.int .i64 ((xs.getD ((i).toNat) opt0).1), .slice A14 ys14.length (c10 - 0), .string (((xs.getD ((i).toNat) opt0).2.2).extract 0 ((imin (((xs.getD ((i).toNat) opt0).2.2).size : Int) 60).toNat))]⟩), (48, ⟨65, 3, .slice A21 1 1, 1, [.int .i64 ((xs.getD ((i).toNat) opt0).1), .slice A14 ys14.length (c10 - 0), .string (((xs.getD ((i).toNat) opt0).2.2).extract 0 ((imin (((xs.getD ((i).toNat) opt0).2.2).size : Int) 60).toNat))]⟩)]) rfl ?_
      refine X.back ⟨trivial, Le.refl _, rfl, ?_⟩
      refine XD.take (i := 35) (l' := (lb 36 68719476735)) (oA B48 [1, 1, 0, 1, 0, 0, 1, 0, 0] 35) (.v (.slice A22 (n_ + 1) c22)) QOk.ctxG (by kernel_rfl) (by kernel_rfl) (by kernel_rfl) (by kernel_rfl) (by kernel_rfl) ?_
      refine XD.done (by kernel_rfl) ?_
      refine X.run 7 [0, 2, 3, 4] [] (.ex .normal) [.loop J1, .blk 0, .seq (cA B48 [1, 1, 1])] ⟨51, [(0, .v (.slice A xs.length c)), (2, .v (.slice none 0 0)), (3, .v (.slice A22 (n_ + 1) c22)), (4, .v (.int .i64 (IntKind.i64.wrap (i + 1))))], []⟩ (by kernel_rfl) ?_
      -- again (TT)
      refine X.tellR [24] (R' := [(24, ⟨65, 3, .slice A22 (n_ + 1) c22, n_ + 1, cs_ ++ [.int .i64 ((xs.getD ((i).toNat) opt0).1), .slice A14 ys14.length (c10 - 0), .string (((xs.getD ((i).toNat) opt0).2.2).extract 0 ((imin (((xs.getD ((i).toNat) opt0).2.2).size : Int) 60).toNat))]⟩)]) rfl ?_
      have e1 : IntKind.i64.wrap (i + 1) = i + 1 := wi64 (by omega) (by omega)
      have e0 : (i + 1).toNat = i.toNat + 1 := by omega
      have hyq_ : ys14 = (xs.getD i.toNat opt0).2.1.take 12 := by rw [← hys14]; simp only [imin_eq]; exact few_nums _
      exact X.again (hJ1 _ _ _ _ ⟨A22, c22, n_ + 1, cs_ ++ [.int .i64 ((xs.getD ((i).toNat) opt0).1), .slice A14 ys14.length (c10 - 0), .string (((xs.getD ((i).toNat) opt0).2.2).extract 0 ((imin (((xs.getD ((i).toNat) opt0).2.2).size : Int) 60).toNat))], IntKind.i64.wrap (i + 1), rfl, rfl, rfl, ⟨by omega, by omega, by omega, by rw [e1]; omega, by rw [e1, e0, few_step (by omega)]; refine repsD_snoc hcs ?_; simp only [imin_eq]; have hrep_ := opt_rep (G := G) (k := (xs.getD i.toNat opt0).1) (s := (xs.getD i.toNat opt0).2.2.extract 0 60) kr20 hc14 hm14 hr14 ⟨rfl, by simp only [ByteArray.size_extract, maxLen]; omega⟩; rw [← few_raw] at hrep_; unfold cutO; rw [← hyq_, ← few_raw]; exact hrep_⟩, rfl⟩ (by rw [e1]; omega))
    · -- slot 12: decide (i < 12) is False
      replace h3 : ¬ (i < 12) := of_decide_eq_false h3
      refine X.run 13 [2] [] (.ex .ret) [] ⟨51, [(2, .v (.slice B_ n_ c_))], []⟩ (by kernel_rfl) ?_
      refine doneG (.inl rfl) [.slice B_ n_ c_] [24] (by kernel_rfl) rfl rfl (Ge.refl _ _) ?_
      -- end 1 (TF)
      rw [few_all (by omega) (by omega) (by omega)] at hcs
      have hl_ : (fewO xs).length = n_ := by rw [← few_all (xs := xs) (i := i.toNat) (by omega) (by omega) (by omega), List.length_map, List.length_take]; omega
      rw [hl_]
      exact ⟨B_, c_, cs_, rfl, rfl, hcs⟩
  · -- slot 9: decide (i < ((xs.length : Nat) : Int)) is False
    replace h2 : ¬ (i < ((xs.length : Nat) : Int)) := of_decide_eq_false h2
    refine X.run 18 [2] [] (.ex .ret) [] ⟨51, [(2, .v (.slice B_ n_ c_))], []⟩ (by kernel_rfl) ?_
    refine doneG (.inl rfl) [.slice B_ n_ c_] [24] (by kernel_rfl) rfl rfl (Ge.refl _ _) ?_
    -- end 2 (F)
    rw [few_all (by omega) (by omega) (by omega)] at hcs
    have hl_ : (fewO xs).length = n_ := by rw [← few_all (xs := xs) (i := i.toNat) (by omega) (by omega) (by omega), List.length_map, List.length_take]; omega
    rw [hl_]
    exact ⟨B_, c_, cs_, rfl, rfl, hcs⟩

set_option maxHeartbeats 1000000 in
theorem shape_ok (k : Int) (G : Mem) : CallsG Try.prog 108 [.int .i64 k] G (fun _ v rows => v = .tuple #[.int .i64 (szk k), .int .i64 (lk2 k), .int .i64 (mk2 k)] ∧ rows = []) := by
  refine CallsG.enter Try.func108 rfl rfl ?_
  intro w
  refine X.run 20 [2, 3, 4, 5, 6] [] (.code (cA B108 [1, 0, 1, 0, 1])) [.blk 0, .seq (cA B108 [1, 1])] ⟨13, [(2, .v (.int .i64 0)), (3, .v (.int .i64 0)), (4, .v (.int .i64 0)), (5, .v (.int .i64 k)), (6, .v (.bool (k == 2)))], []⟩ (by kernel_rfl) ?_
  refine X.split 6 rfl (fun h1 => ?_) (fun h1 => ?_)
  · -- slot 6: k == 2 is True
    replace h1 : k = 2 := by simpa using h1
    refine X.run 11 [2, 3, 4] [] (.ex .ret) [] ⟨13, [(2, .v (.int .i64 2)), (3, .v (.int .i64 1)), (4, .v (.int .i64 1))], []⟩ (by kernel_rfl) ?_
    refine doneG (.inl rfl) [.int .i64 2, .int .i64 1, .int .i64 1] [] (by kernel_rfl) rfl rfl (Ge.refl _ _) ?_
    -- end 1 (T)
    refine ⟨?_, rfl⟩
    unfold szk lk2 mk2
    (repeat' split) <;> first | rfl | omega
  · -- slot 6: k == 2 is False
    replace h1 : k ≠ 2 := by simpa using h1
    refine X.run 7 [2, 3, 4, 5, 8] [] (.code (cA B108 [1, 0, 1, 0, 1, 1, 1])) [.blk 0, .seq (cA B108 [1, 1])] ⟨13, [(2, .v (.int .i64 0)), (3, .v (.int .i64 0)), (4, .v (.int .i64 0)), (5, .v (.int .i64 k)), (8, .v (.bool (k == 8)))], []⟩ (by kernel_rfl) ?_
    refine X.split 8 rfl (fun h2 => ?_) (fun h2 => ?_)
    · -- slot 8: k == 8 is True
      replace h2 : k = 8 := by simpa using h2
      refine X.run 11 [2, 3, 4] [] (.ex .ret) [] ⟨13, [(2, .v (.int .i64 4)), (3, .v (.int .i64 2)), (4, .v (.int .i64 2))], []⟩ (by kernel_rfl) ?_
      refine doneG (.inl rfl) [.int .i64 4, .int .i64 2, .int .i64 2] [] (by kernel_rfl) rfl rfl (Ge.refl _ _) ?_
      -- end 2 (FT)
      refine ⟨?_, rfl⟩
      unfold szk lk2 mk2
      (repeat' split) <;> first | rfl | omega
    · -- slot 8: k == 8 is False
      replace h2 : k ≠ 8 := by simpa using h2
      refine X.run 8 [2, 3, 4, 5, 10] [] (.code (cA B108 [1, 0, 1, 0, 1, 1, 1, 1, 0, 1])) [.seq (cA B108 [1, 0, 1, 0, 1, 1, 1, 1, 1]), .blk 0, .seq (cA B108 [1, 1])] ⟨13, [(2, .v (.int .i64 0)), (3, .v (.int .i64 0)), (4, .v (.int .i64 0)), (5, .v (.int .i64 k)), (10, .v (.bool (k == 172)))], []⟩ (by kernel_rfl) ?_
      refine X.split 10 rfl (fun h3 => ?_) (fun h3 => ?_)
      · -- slot 10: k == 172 is True
        replace h3 : k = 172 := by simpa using h3
        refine X.run 14 [2, 3, 4] [] (.ex .ret) [] ⟨13, [(2, .v (.int .i64 3)), (3, .v (.int .i64 0)), (4, .v (.int .i64 3))], []⟩ (by kernel_rfl) ?_
        refine doneG (.inl rfl) [.int .i64 3, .int .i64 0, .int .i64 3] [] (by kernel_rfl) rfl rfl (Ge.refl _ _) ?_
        -- end 3 (FFT)
        refine ⟨?_, rfl⟩
        unfold szk lk2 mk2
        (repeat' split) <;> first | rfl | omega
      · -- slot 10: k == 172 is False
        replace h3 : k ≠ 172 := by simpa using h3
        refine X.run 6 [2, 3, 4, 10] [] (.code (cA B108 [1, 0, 1, 0, 1, 1, 1, 1, 1])) [.blk 0, .seq (cA B108 [1, 1])] ⟨13, [(2, .v (.int .i64 0)), (3, .v (.int .i64 0)), (4, .v (.int .i64 0)), (10, .v (.bool (k == 174)))], []⟩ (by kernel_rfl) ?_
        refine X.split 10 rfl (fun h4 => ?_) (fun h4 => ?_)
        · -- slot 10: k == 174 is True
          replace h4 : k = 174 := by simpa using h4
          refine X.run 11 [2, 3, 4] [] (.ex .ret) [] ⟨13, [(2, .v (.int .i64 3)), (3, .v (.int .i64 0)), (4, .v (.int .i64 3))], []⟩ (by kernel_rfl) ?_
          refine doneG (.inl rfl) [.int .i64 3, .int .i64 0, .int .i64 3] [] (by kernel_rfl) rfl rfl (Ge.refl _ _) ?_
          -- end 4 (FFFT)
          refine ⟨?_, rfl⟩
          unfold szk lk2 mk2
          (repeat' split) <;> first | rfl | omega
        · -- slot 10: k == 174 is False
          replace h4 : k ≠ 174 := by simpa using h4
          refine X.run 12 [2, 3, 4] [] (.ex .ret) [] ⟨13, [(2, .v (.int .i64 0)), (3, .v (.int .i64 0)), (4, .v (.int .i64 0))], []⟩ (by kernel_rfl) ?_
          refine doneG (.inl rfl) [.int .i64 0, .int .i64 0, .int .i64 0] [] (by kernel_rfl) rfl rfl (Ge.refl _ _) ?_
          -- end 5 (FFFF)
          refine ⟨?_, rfl⟩
          unfold szk lk2 mk2
          (repeat' split) <;> first | rfl | omega

set_option maxHeartbeats 1000000 in
theorem rsize_ok (k : Int) (G : Mem) : CallsG Try.prog 112 [.int .i64 k] G (fun _ v rows => v = .int .i64 (szk k) ∧ rows = []) := by
  refine CallsG.enter Try.func112 rfl rfl ?_
  intro w
  refine X.run 12 [0, 2, 4] [] (.code (cA B112 [1, 0, 1])) [.seq (cA B112 [1, 1])] ⟨13, [(0, .v (.int .i64 k)), (2, .v (.int .i64 0)), (4, .v (.bool (k == 2)))], []⟩ (by kernel_rfl) ?_
  refine X.split 4 rfl (fun h1 => ?_) (fun h1 => ?_)
  · -- slot 4: k == 2 is True
    replace h1 : k = 2 := by simpa using h1
    refine X.run 8 [2] [] (.ex .ret) [] ⟨13, [(2, .v (.int .i64 2))], []⟩ (by kernel_rfl) ?_
    refine doneG (.inl rfl) [.int .i64 2] [] (by kernel_rfl) rfl rfl (Ge.refl _ _) ?_
    -- end 1 (T)
    refine ⟨?_, rfl⟩
    unfold szk
    (repeat' split) <;> first | rfl | omega
  · -- slot 4: k == 2 is False
    replace h1 : k ≠ 2 := by simpa using h1
    refine X.run 10 [0, 2, 6] [] (.code (cA B112 [1, 1, 0, 1])) [.seq (cA B112 [1, 1, 1])] ⟨13, [(0, .v (.int .i64 k)), (2, .v (.int .i64 0)), (6, .v (.bool (k == 8)))], []⟩ (by kernel_rfl) ?_
    refine X.split 6 rfl (fun h2 => ?_) (fun h2 => ?_)
    · -- slot 6: k == 8 is True
      replace h2 : k = 8 := by simpa using h2
      refine X.run 8 [2] [] (.ex .ret) [] ⟨13, [(2, .v (.int .i64 4))], []⟩ (by kernel_rfl) ?_
      refine doneG (.inl rfl) [.int .i64 4] [] (by kernel_rfl) rfl rfl (Ge.refl _ _) ?_
      -- end 2 (FT)
      refine ⟨?_, rfl⟩
      unfold szk
      (repeat' split) <;> first | rfl | omega
    · -- slot 6: k == 8 is False
      replace h2 : k ≠ 8 := by simpa using h2
      refine X.run 9 [0, 2, 9] [] (.ops (aA B112 [1, 1, 1, 0, 0]) (oA B112 [1, 1, 1, 0, 0] 3 :: lA B112 [1, 1, 1, 0, 0] 4)) [.seq (cA B112 [1, 1, 1, 0, 1]), .seq (cA B112 [1, 1, 1, 1])] ⟨13, [(0, .v (.int .i64 k)), (2, .v (.int .i64 0)), (9, .v (.bool (k == 172)))], []⟩ (by kernel_rfl) ?_
      refine X.split 9 rfl (fun h3 => ?_) (fun h3 => ?_)
      · -- slot 9: k == 172 is True
        replace h3 : k = 172 := by simpa using h3
        refine X.run 13 [2] [] (.ex .ret) [] ⟨13, [(2, .v (.int .i64 3))], []⟩ (by kernel_rfl) ?_
        refine doneG (.inl rfl) [.int .i64 3] [] (by kernel_rfl) rfl rfl (Ge.refl _ _) ?_
        -- end 3 (FFT)
        refine ⟨?_, rfl⟩
        unfold szk
        (repeat' split) <;> first | rfl | omega
      · -- slot 9: k == 172 is False
        replace h3 : k ≠ 172 := by simpa using h3
        refine X.run 5 [2, 12] [] (.code (cA B112 [1, 1, 1, 0, 1])) [.seq (cA B112 [1, 1, 1, 1])] ⟨13, [(2, .v (.int .i64 0)), (12, .v (.bool (k == 174)))], []⟩ (by kernel_rfl) ?_
        refine X.split 12 rfl (fun h4 => ?_) (fun h4 => ?_)
        · -- slot 12: k == 174 is True
          replace h4 : k = 174 := by simpa using h4
          refine X.run 8 [2] [] (.ex .ret) [] ⟨13, [(2, .v (.int .i64 3))], []⟩ (by kernel_rfl) ?_
          refine doneG (.inl rfl) [.int .i64 3] [] (by kernel_rfl) rfl rfl (Ge.refl _ _) ?_
          -- end 4 (FFFT)
          refine ⟨?_, rfl⟩
          unfold szk
          (repeat' split) <;> first | rfl | omega
        · -- slot 12: k == 174 is False
          replace h4 : k ≠ 174 := by simpa using h4
          refine X.run 9 [2] [] (.ex .ret) [] ⟨13, [(2, .v (.int .i64 0))], []⟩ (by kernel_rfl) ?_
          refine doneG (.inl rfl) [.int .i64 0] [] (by kernel_rfl) rfl rfl (Ge.refl _ _) ?_
          -- end 5 (FFFF)
          refine ⟨?_, rfl⟩
          unfold szk
          (repeat' split) <;> first | rfl | omega
end Go.Proofs.YtjgpdbkkpomhjaaX
