/- leatref12.All -/
import Derived.Test.YtjgpdbkkpomhjaaProg
import Derived.KernelRfl
import Derived.Test.YtjgpdbkkpomhjaaXO6
import Derived.Test.YtjgpdbkkpomhjaaXSM
import Derived.Test.YtjgpdbkkpomhjaaXDG
namespace Go.Proofs.YtjgpdbkkpomhjaaX
open Go.RowKit
set_option linter.unusedVariables false
set_option linter.unusedSimpArgs false
set_option maxRecDepth 100000
theorem take_extO {xs ys : List Opt} {i : Nat} (h : xs.take i = ys.take i) (hi : i < xs.length) (hj : i < ys.length) (he : (xs.getD i opt0).1 = (ys.getD i opt0).1 ∧ (xs.getD i opt0).2.2 = (ys.getD i opt0).2.2 ∧ (xs.getD i opt0).2.1 = (ys.getD i opt0).2.1) : xs.take (i + 1) = ys.take (i + 1) := by
  rw [take_step hi, take_step hj, h]
  have e : xs.getD i opt0 = ys.getD i opt0 := Prod.ext he.1 (Prod.ext he.2.2 he.2.1)
  rw [e]

/-- leat/leatref12.All -/
noncomputable def B60 : Code := bodyOf Try.f60
set_option maxHeartbeats 1000000 in
theorem All_ok (A B : Option Addr) (ca cb : Nat) (xs ys : List Opt) (G : Mem) (hx : rowAt optD G A xs) (hy : rowAt optD G B ys) (hxc : xs.length ≤ ca) (hyc : ys.length ≤ cb) (hxm : ca ≤ maxLen) (hym : cb ≤ maxLen) : CallsG Try.prog 60 [.slice A xs.length ca, .slice B ys.length cb] G (fun _ v rows => v = .bool (decide (xs = ys)) ∧ rows = []) := by
  simp only [maxLen] at hxm hym
  refine CallsG.enter Try.func60 rfl rfl ?_
  intro w
  refine X.run 15 [0, 1, 4, 10] [] (.code (cA B60 [1, 0, 1])) [.seq (cA B60 [1, 1])] ⟨27, [(0, .v (.slice A xs.length ca)), (1, .v (.slice B ys.length cb)), (4, .v (.bool false)), (10, .v (.bool (((xs.length : Nat) : Int) != ((ys.length : Nat) : Int))))], []⟩ (by kernel_rfl) ?_
  refine X.split 10 rfl (fun h1 => ?_) (fun h1 => ?_)
  · -- slot 10: ((xs.length : Nat) : Int) != ((ys.length : Nat) : Int) is True
    replace h1 : ((xs.length : Nat) : Int) ≠ ((ys.length : Nat) : Int) := by simpa using h1
    refine X.run 8 [4] [] (.ex .ret) [] ⟨27, [(4, .v (.bool false))], []⟩ (by kernel_rfl) ?_
    refine doneG (.inl rfl) [.bool false] [] (by kernel_rfl) rfl rfl (Ge.refl _ _) ?_
    -- end 1 (T)
    exact ⟨congrArg Value.bool (by rw [eq_comm, decide_eq_false_iff_not]; intro e_; subst e_; omega), rfl⟩
  · -- slot 10: ((xs.length : Nat) : Int) != ((ys.length : Nat) : Int) is False
    replace h1 : ((xs.length : Nat) : Int) = ((ys.length : Nat) : Int) := by simpa using h1
    refine X.run 10 [0, 1, 4, 5] [] (.code (cA B60 [1, 1, 0, 1, 0])) [.blk 0, .seq (cA B60 [1, 1, 1])] ⟨27, [(0, .v (.slice A xs.length ca)), (1, .v (.slice B ys.length cb)), (4, .v (.bool false)), (5, .v (.int .i64 0))], []⟩ (by kernel_rfl) ?_
    refine X.run 0 [0, 1, 5] [] (.code (cA B60 [1, 1, 0, 1, 0])) [.blk 0, .seq (cA B60 [1, 1, 1])] ⟨27, [(0, .v (.slice A xs.length ca)), (1, .v (.slice B ys.length cb)), (5, .v (.int .i64 0))], []⟩ (by kernel_rfl) ?_
    refine X.loopJ (fun m s R' G' => ∃ (i : Int), s = ⟨27, [(0, .v (.slice A xs.length ca)), (1, .v (.slice B ys.length cb)), (5, .v (.int .i64 i))], []⟩ ∧ R' = [] ∧ Ge G w.heap.size G' ∧ (0 ≤ i ∧ i ≤ (xs.length : Int) ∧ xs.take i.toNat = ys.take i.toNat) ∧ m = ((xs.length : Int) - i).toNat) _ ⟨0, rfl, rfl, Ge.refl _ _, ⟨by omega, by omega, rfl⟩, rfl⟩ ?_
    rintro m2 s2 R2 G2 ⟨i, rfl, rfl, hG2, hF2, rfl⟩ J2 hJ2
    replace hx := hx.mono hG2.le
    replace hy := hy.mono hG2.le
    obtain ⟨hi0, hi1, hi2⟩ := hF2
    refine X.run 9 [0, 1, 5, 14] [] (.code (cA B60 [1, 1, 0, 1, 0, 0, 0, 1])) [.seq (cA B60 [1, 1, 0, 1, 0, 0, 1]), .loop J2, .blk 0, .seq (cA B60 [1, 1, 1])] ⟨27, [(0, .v (.slice A xs.length ca)), (1, .v (.slice B ys.length cb)), (5, .v (.int .i64 i)), (14, .v (.bool (decide (i < ((xs.length : Nat) : Int)))))], []⟩ (by kernel_rfl) ?_
    refine X.split 14 rfl (fun h3 => ?_) (fun h3 => ?_)
    · -- slot 14: decide (i < ((xs.length : Nat) : Int)) is True
      replace h3 : i < ((xs.length : Nat) : Int) := of_decide_eq_true h3
      refine X.run 6 [0, 1, 5] [] (.code (cA B60 [1, 1, 0, 1, 0, 0, 1, 0, 0, 0])) [.seq (cA B60 [1, 1, 0, 1, 0, 0, 1, 0, 0, 1]), .blk 1, .seq (cA B60 [1, 1, 0, 1, 0, 0, 1, 1]), .loop J2, .blk 0, .seq (cA B60 [1, 1, 1])] ⟨27, [(0, .v (.slice A xs.length ca)), (1, .v (.slice B ys.length cb)), (5, .v (.int .i64 i))], []⟩ (by kernel_rfl) ?_
      have hx_d4 := hx
      have hy_d4 := hy
      refine XD.open (id := 6) (arr := aA B60 [1, 1, 0, 1, 0, 0, 1, 0, 0, 0]) 10 [] [] [] (by kernel_rfl) (by kernel_rfl) (by kernel_rfl) (by kernel_rfl) (by kernel_rfl) trivial (by simp) rfl (fun ρ0 => ?_)
      refine XD.take (i := 0) (l' := (lb 10 1)) (oA B60 [1, 1, 0, 1, 0, 0, 1, 0, 0, 0] 0) (.v (.slice A xs.length ca)) QOk.ctxG (by kernel_rfl) (by kernel_rfl) (by kernel_rfl) (by kernel_rfl) (by kernel_rfl) ?_
      refine XD.take (i := 1) (l' := (lb 10 3)) (oA B60 [1, 1, 0, 1, 0, 0, 1, 0, 0, 0] 1) (.v (.int .i64 i)) QOk.ctxG (by kernel_rfl) (by kernel_rfl) (by kernel_rfl) (by kernel_rfl) (by kernel_rfl) ?_
      have b5 : (0 : Int) ≤ i := by omega
      have b6 : i < ((xs.length : Nat) : Int) := by omega
      obtain ⟨A7, c7, at7, kr7, le7, mx7, hr7⟩ := At.opt [] hx_d4 ((i).toNat) (by omega)
      simp only [IntKind.lo, IntKind.hi, maxLen] at kr7 mx7
      refine XD.index (i := 2) (l' := (lb 10 7)) (o := (oA B60 [1, 1, 0, 1, 0, 0, 1, 0, 0, 0] 2)) (t := 59) (e := 65) (sz := 3) (A := A) (n := xs.length) (c := ca) (ki := .i64) (j := i) (x := .tmp 17) (ix := .tmp 18) QOk.ctxG (by kernel_rfl) (by kernel_rfl) (by kernel_rfl) (by kernel_rfl) (by kernel_rfl) (by kernel_rfl) (by kernel_rfl) (by kernel_rfl) b5 b6 (fun _ _ => rowAt.so hx_d4 (by omega)) (by kernel_rfl) ?_
      refine XD.load (i := 3) (l' := (lb 10 15)) (o := (oA B60 [1, 1, 0, 1, 0, 0, 1, 0, 0, 0] 3)) (t := 65) (A := A) (j := (i).toNat * 3) (x := .tmp 19) (z := .agg #[.int .i64 ((xs.getD ((i).toNat) opt0).1), .slice A7 ((xs.getD ((i).toNat) opt0).2.1.length) c7, .string ((xs.getD ((i).toNat) opt0).2.2)]) [.int .i64 ((xs.getD ((i).toNat) opt0).1), .slice A7 ((xs.getD ((i).toNat) opt0).2.1.length) c7, .string ((xs.getD ((i).toNat) opt0).2.2)] QOk.ctxG (by kernel_rfl) (by kernel_rfl) (by kernel_rfl) (by kernel_rfl) (by kernel_rfl) at7 (by kernel_rfl) (by kernel_rfl) ?_
      refine XD.take (i := 4) (l' := (lb 10 31)) (oA B60 [1, 1, 0, 1, 0, 0, 1, 0, 0, 0] 4) (.v (.slice B ys.length cb)) QOk.ctxG (by kernel_rfl) (by kernel_rfl) (by kernel_rfl) (by kernel_rfl) (by kernel_rfl) ?_
      refine XD.take (i := 5) (l' := (lb 10 63)) (oA B60 [1, 1, 0, 1, 0, 0, 1, 0, 0, 0] 5) (.v (.int .i64 i)) QOk.ctxG (by kernel_rfl) (by kernel_rfl) (by kernel_rfl) (by kernel_rfl) (by kernel_rfl) ?_
      have b8 : (0 : Int) ≤ i := by omega
      have b9 : i < ((ys.length : Nat) : Int) := by omega
      obtain ⟨A10, c10, at10, kr10, le10, mx10, hr10⟩ := At.opt [] hy_d4 ((i).toNat) (by omega)
      simp only [IntKind.lo, IntKind.hi, maxLen] at kr10 mx10
      refine XD.index (i := 6) (l' := (lb 10 127)) (o := (oA B60 [1, 1, 0, 1, 0, 0, 1, 0, 0, 0] 6)) (t := 59) (e := 65) (sz := 3) (A := B) (n := ys.length) (c := cb) (ki := .i64) (j := i) (x := .tmp 21) (ix := .tmp 22) QOk.ctxG (by kernel_rfl) (by kernel_rfl) (by kernel_rfl) (by kernel_rfl) (by kernel_rfl) (by kernel_rfl) (by kernel_rfl) (by kernel_rfl) b8 b9 (fun _ _ => rowAt.so hy_d4 (by omega)) (by kernel_rfl) ?_
      refine XD.load (i := 7) (l' := (lb 10 255)) (o := (oA B60 [1, 1, 0, 1, 0, 0, 1, 0, 0, 0] 7)) (t := 65) (A := B) (j := (i).toNat * 3) (x := .tmp 23) (z := .agg #[.int .i64 ((ys.getD ((i).toNat) opt0).1), .slice A10 ((ys.getD ((i).toNat) opt0).2.1.length) c10, .string ((ys.getD ((i).toNat) opt0).2.2)]) [.int .i64 ((ys.getD ((i).toNat) opt0).1), .slice A10 ((ys.getD ((i).toNat) opt0).2.1.length) c10, .string ((ys.getD ((i).toNat) opt0).2.2)] QOk.ctxG (by kernel_rfl) (by kernel_rfl) (by kernel_rfl) (by kernel_rfl) (by kernel_rfl) at10 (by kernel_rfl) (by kernel_rfl) ?_
      refine XD.norm [0, 1, 5, 20, 24] [] ⟨27, [(0, .v (.slice A xs.length ca)), (1, .v (.slice B ys.length cb)), (5, .v (.int .i64 i)), (20, .v (.agg #[.int .i64 ((xs.getD ((i).toNat) opt0).1), .slice A7 ((xs.getD ((i).toNat) opt0).2.1.length) c7, .string ((xs.getD ((i).toNat) opt0).2.2)])), (24, .v (.agg #[.int .i64 ((ys.getD ((i).toNat) opt0).1), .slice A10 ((ys.getD ((i).toNat) opt0).2.1.length) c10, .string ((ys.getD ((i).toNat) opt0).2.2)]))], []⟩ (by kernel_rfl) trivial ?_
      refine XD.one (i := 8) (l' := (lb 10 511)) (oA B60 [1, 1, 0, 1, 0, 0, 1, 0, 0, 0] 8) (by kernel_rfl) (by kernel_rfl) (by kernel_rfl) ?_
      refine X.callG (f := 52) (l := [.v (.agg #[.int .i64 ((xs.getD ((i).toNat) opt0).1), .slice A7 ((xs.getD ((i).toNat) opt0).2.1.length) c7, .string ((xs.getD ((i).toNat) opt0).2.2)]), .v (.agg #[.int .i64 ((ys.getD ((i).toNat) opt0).1), .slice A10 ((ys.getD ((i).toNat) opt0).2.1.length) c10, .string ((ys.getD ((i).toNat) opt0).2.2)])]) [.agg #[.int .i64 ((xs.getD ((i).toNat) opt0).1), .slice A7 ((xs.getD ((i).toNat) opt0).2.1.length) c7, .string ((xs.getD ((i).toNat) opt0).2.2)], .agg #[.int .i64 ((ys.getD ((i).toNat) opt0).1), .slice A10 ((ys.getD ((i).toNat) opt0).2.1.length) c10, .string ((ys.getD ((i).toNat) opt0).2.2)]] 0 (by kernel_rfl) (by kernel_rfl) (by kernel_rfl) (Same_ok ((xs.getD ((i).toNat) opt0).1) ((ys.getD ((i).toNat) opt0).1) A7 A10 c7 c10 ((xs.getD ((i).toNat) opt0).2.1) ((ys.getD ((i).toNat) opt0).2.1) ((xs.getD ((i).toNat) opt0).2.2) ((ys.getD ((i).toNat) opt0).2.2) _ hr7 hr10 le7 le10 mx7 mx10) ?_
      rintro v11 G11 rows11 hG11 ⟨rfl, rfl⟩
      replace hx := hx.mono hG11.le
      replace hy := hy.mono hG11.le
      replace hr7 := hr7.mono hG11.le
      replace hr10 := hr10.mono hG11.le
      refine X.back ⟨trivial, hG11.le, rfl, ?_⟩
      refine XD.take (i := 9) (l' := (lb 10 1023)) (oA B60 [1, 1, 0, 1, 0, 0, 1, 0, 0, 0] 9) (.v (.bool (!(decide (((xs.getD ((i).toNat) opt0).1 : Int) = (ys.getD ((i).toNat) opt0).1 ∧ ((xs.getD ((i).toNat) opt0).2.2 : ByteArray) = (ys.getD ((i).toNat) opt0).2.2 ∧ ((xs.getD ((i).toNat) opt0).2.1 : List Int) = (ys.getD ((i).toNat) opt0).2.1))))) QOk.ctxG (by kernel_rfl) (by kernel_rfl) (by kernel_rfl) (by kernel_rfl) (by kernel_rfl) ?_
      refine XD.done (by kernel_rfl) ?_
      refine X.run 1 [0, 1, 5, 26] [] (.code (cA B60 [1, 1, 0, 1, 0, 0, 1, 0, 0, 1])) [.blk 1, .seq (cA B60 [1, 1, 0, 1, 0, 0, 1, 1]), .loop J2, .blk 0, .seq (cA B60 [1, 1, 1])] ⟨27, [(0, .v (.slice A xs.length ca)), (1, .v (.slice B ys.length cb)), (5, .v (.int .i64 i)), (26, .v (.bool (!(decide (((xs.getD ((i).toNat) opt0).1 : Int) = (ys.getD ((i).toNat) opt0).1 ∧ ((xs.getD ((i).toNat) opt0).2.2 : ByteArray) = (ys.getD ((i).toNat) opt0).2.2 ∧ ((xs.getD ((i).toNat) opt0).2.1 : List Int) = (ys.getD ((i).toNat) opt0).2.1)))))], []⟩ (by kernel_rfl) ?_
      refine X.split 26 rfl (fun h12 => ?_) (fun h12 => ?_)
      · -- slot 26: !(decide (((xs.getD ((i).toNat) opt0).1 : Int) = (ys.getD ((i).toNat) opt0).1 ∧ ((xs.getD ((i).toNat) opt0).2.2 : ByteArray) = (ys.getD ((i).toNat) opt0).2.2 ∧ ((xs.getD ((i).toNat) opt0).2.1 : List Int) = (ys.getD ((i).toNat) opt0).2.1)) is True
        replace h12 : (decide (((xs.getD ((i).toNat) opt0).1 : Int) = (ys.getD ((i).toNat) opt0).1 ∧ ((xs.getD ((i).toNat) opt0).2.2 : ByteArray) = (ys.getD ((i).toNat) opt0).2.2 ∧ ((xs.getD ((i).toNat) opt0).2.1 : List Int) = (ys.getD ((i).toNat) opt0).2.1)) = false := by first | (simpa using h12; done) | (have h_ := congrArg (fun b_ => !b_) h12; simpa only [Bool.not_not, Bool.not_true, Bool.not_false] using h_)
        replace h12 : ¬ (((xs.getD ((i).toNat) opt0).1 : Int) = (ys.getD ((i).toNat) opt0).1 ∧ ((xs.getD ((i).toNat) opt0).2.2 : ByteArray) = (ys.getD ((i).toNat) opt0).2.2 ∧ ((xs.getD ((i).toNat) opt0).2.1 : List Int) = (ys.getD ((i).toNat) opt0).2.1) := of_decide_eq_false h12
        refine X.run 12 [4] [] (.ex .ret) [] ⟨27, [(4, .v (.bool false))], []⟩ (by kernel_rfl) ?_
        refine doneG (.inl rfl) [.bool false] [] (by kernel_rfl) rfl rfl ((hG2.trans hG11)) ?_
        -- end 2 (FTT)
        exact ⟨congrArg Value.bool (by rw [eq_comm, decide_eq_false_iff_not]; intro e_; subst e_; exact (show ¬ (_ ∧ _ ∧ _) by assumption) ⟨rfl, rfl, rfl⟩), rfl⟩
      · -- slot 26: !(decide (((xs.getD ((i).toNat) opt0).1 : Int) = (ys.getD ((i).toNat) opt0).1 ∧ ((xs.getD ((i).toNat) opt0).2.2 : ByteArray) = (ys.getD ((i).toNat) opt0).2.2 ∧ ((xs.getD ((i).toNat) opt0).2.1 : List Int) = (ys.getD ((i).toNat) opt0).2.1)) is False
        replace h12 : (decide (((xs.getD ((i).toNat) opt0).1 : Int) = (ys.getD ((i).toNat) opt0).1 ∧ ((xs.getD ((i).toNat) opt0).2.2 : ByteArray) = (ys.getD ((i).toNat) opt0).2.2 ∧ ((xs.getD ((i).toNat) opt0).2.1 : List Int) = (ys.getD ((i).toNat) opt0).2.1)) = true := by first | (simpa using h12; done) | (have h_ := congrArg (fun b_ => !b_) h12; simpa only [Bool.not_not, Bool.not_true, Bool.not_false] using h_)
        replace h12 : ((xs.getD ((i).toNat) opt0).1 : Int) = (ys.getD ((i).toNat) opt0).1 ∧ ((xs.getD ((i).toNat) opt0).2.2 : ByteArray) = (ys.getD ((i).toNat) opt0).2.2 ∧ ((xs.getD ((i).toNat) opt0).2.1 : List Int) = (ys.getD ((i).toNat) opt0).2.1 := of_decide_eq_true h12
        refine X.run 9 [0, 1, 5] [] (.ex .normal) [.loop J2, .blk 0, .seq (cA B60 [1, 1, 1])] ⟨27, [(0, .v (.slice A xs.length ca)), (1, .v (.slice B ys.length cb)), (5, .v (.int .i64 (IntKind.i64.wrap (i + 1))))], []⟩ (by kernel_rfl) ?_
        -- again (FTF)
        have e1 : IntKind.i64.wrap (i + 1) = i + 1 := wi64 (by omega) (by omega)
        have e0 : (i + 1).toNat = i.toNat + 1 := by omega
        exact X.again (hJ2 _ _ _ _ ⟨IntKind.i64.wrap (i + 1), rfl, rfl, (hG2.trans hG11), ⟨by omega, by omega, by rw [e1, e0]; exact take_extO hi2 (by omega) (by omega) (by assumption)⟩, rfl⟩ (by rw [e1]; omega))
    · -- slot 14: decide (i < ((xs.length : Nat) : Int)) is False
      replace h3 : ¬ (i < ((xs.length : Nat) : Int)) := of_decide_eq_false h3
      refine X.run 12 [4] [] (.ex .ret) [] ⟨27, [(4, .v (.bool true))], []⟩ (by kernel_rfl) ?_
      refine doneG (.inl rfl) [.bool true] [] (by kernel_rfl) rfl rfl (hG2) ?_
      -- end 3 (FF)
      have hl_ : xs.length = ys.length := by omega
      have h1_ := hi2
      rw [List.take_of_length_le (by omega), List.take_of_length_le (by omega)] at h1_
      exact ⟨congrArg Value.bool (by rw [eq_comm, decide_eq_true_iff]; exact h1_), rfl⟩
end Go.Proofs.YtjgpdbkkpomhjaaX
