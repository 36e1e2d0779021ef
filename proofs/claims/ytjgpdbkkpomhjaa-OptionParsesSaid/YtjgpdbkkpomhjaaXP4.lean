/- leatlaw12.OptionParses -/
import Derived.Test.YtjgpdbkkpomhjaaProg
import Derived.KernelRfl
import Derived.Test.YtjgpdbkkpomhjaaXP3
import Derived.Test.YtjgpdbkkpomhjaaXDG
namespace Go.Proofs.YtjgpdbkkpomhjaaX
open Go.RowKit
set_option linter.unusedVariables false
set_option linter.unusedSimpArgs false
set_option maxRecDepth 100000
theorem take_extO {xs ys : List Opt} {i : Nat} (h : xs.take i = ys.take i) (hi : i < xs.length) (hj : i < ys.length) (he : (xs.getD i opt0).1 = (ys.getD i opt0).1 ∧ (xs.getD i opt0).2.2 = (ys.getD i opt0).2.2 ∧ (xs.getD i opt0).2.1 = (ys.getD i opt0).2.1) : xs.take (i + 1) = ys.take (i + 1) := by
  rw [take_step hi, take_step hj, h]
  have e : xs.getD i opt0 = ys.getD i opt0 := Prod.ext he.1 (Prod.ext he.2.2 he.2.1)
  rw [e]

/-- leat/leatref12.All -/
noncomputable def B60 : Code := bodyOf Try.f60
set_option maxHeartbeats 1000000 in
theorem All_ok (A B : Option Addr) (ca cb : Nat) (xs ys : List Opt) (G : Mem) (hx : rowAt optD G A xs) (hy : rowAt optD G B ys) (hxc : xs.length ≤ ca) (hyc : ys.length ≤ cb) (hxm : ca ≤ maxLen) (hym : cb ≤ maxLen) : CallsG Try.prog 60 [.slice A xs.length ca, .slice B ys.length cb] G (fun _ v rows => v = .bool (decide (xs = ys)) ∧ rows = []) := by
  simp only [maxLen] at hxm hym
  refine CallsG.enter Try.func60 rfl rfl ?_
  intro w
  refine X.run 15 [0, 1, 4, 10] [] (.code (cA B60 [1, 0, 1])) [.seq (cA B60 [1, 1])] ⟨27, [(0, .v (.slice A xs.length ca)), (1, .v (.slice B ys.length cb)), (4, .v (.bool false)), (10, .v (.bool (((xs.length : Nat) : Int) != ((ys.length : Nat) : Int))))], []⟩ (by kernel_rfl) ?_
  refine X.split 10 rfl (fun h1 => ?_) (fun h1 => ?_)
  · -- slot 10: ((xs.length : Nat) : Int) != ((ys.length : Nat) : Int) is True
    replace h1 : ((xs.length : Nat) : Int) ≠ ((ys.length : Nat) : Int) := by simpa using h1
    refine X.run 8 [4] [] (.ex .ret) [] ⟨27, [(4, .v (.bool false))], []⟩ (by kernel_rfl) ?_
    refine doneG (.inl rfl) [.bool false] [] (by kernel_rfl) rfl rfl (Ge.refl _ _) ?_
    -- end 1 (T)
    exact ⟨congrArg Value.bool (by rw [eq_comm, decide_eq_false_iff_not]; intro e_; subst e_; omega), rfl⟩
  · -- slot 10: ((xs.length : Nat) : Int) != ((ys.length : Nat) : Int) is False
    replace h1 : ((xs.length : Nat) : Int) = ((ys.length : Nat) : Int) := by simpa using h1
    refine X.run 10 [0, 1, 4, 5] [] (.code (cA B60 [1, 1, 0, 1, 0])) [.blk 0, .seq (cA B60 [1, 1, 1])] ⟨27, [(0, .v (.slice A xs.length ca)), (1, .v (.slice B ys.length cb)), (4, .v (.bool false)), (5, .v (.int .i64 0))], []⟩ (by kernel_rfl) ?_
    refine X.run 0 [0, 1, 5] [] (.code (cA B60 [1, 1, 0, 1, 0])) [.blk 0, .seq (cA B60 [1, 1, 1])] ⟨27, [(0, .v (.slice A xs.length ca)), (1, .v (.slice B ys.length cb)), (5, .v (.int .i64 0))], []⟩ (by kernel_rfl) ?_
    refine X.loopJ (fun m s R' G' => ∃ (i : Int), s = ⟨27, [(0, .v (.slice A xs.length ca)), (1, .v (.slice B ys.length cb)), (5, .v (.int .i64 i))], []⟩ ∧ R' = [] ∧ Ge G w.heap.size G' ∧ (0 ≤ i ∧ i ≤ (xs.length : Int) ∧ xs.take i.toNat = ys.take i.toNat) ∧ m = ((xs.length : Int) - i).toNat) _ ⟨0, rfl, rfl, Ge.refl _ _, ⟨by omega, by omega, rfl⟩, rfl⟩ ?_
    rintro m2 s2 R2 G2 ⟨i, rfl, rfl, hG2, hF2, rfl⟩ J2 hJ2
    replace hx := hx.mono hG2.le
    replace hy := hy.mono hG2.le
    obtain ⟨hi0, hi1, hi2⟩ := hF2
    refine X.run 9 [0, 1, 5, 14] [] (.code (cA B60 [1, 1, 0, 1, 0, 0, 0, 1])) [.seq (cA B60 [1, 1, 0, 1, 0, 0, 1]), .loop J2, .blk 0, .seq (cA B60 [1, 1, 1])] ⟨27, [(0, .v (.slice A xs.length ca)), (1, .v (.slice B ys.length cb)), (5, .v (.int .i64 i)), (14, .v (.bool (decide (i < ((xs.length : Nat) : Int)))))], []⟩ (by kernel_rfl) ?_
    refine X.split 14 rfl (fun h3 => ?_) (fun h3 => ?_)
    · -- slot 14: decide (i < ((xs.length : Nat) : Int)) is True
      replace h3 : i < ((xs.length : Nat) : Int) := of_decide_eq_true h3
      refine X.run 6 [0, 1, 5] [] (.code (cA B60 [1, 1, 0, 1, 0, 0, 1, 0, 0, 0])) [.seq (cA B60 [1, 1, 0, 1, 0, 0, 1, 0, 0, 1]), .blk 1, .seq (cA B60 [1, 1, 0, 1, 0, 0, 1, 1]), .loop J2, .blk 0, .seq (cA B60 [1, 1, 1])] ⟨27, [(0, .v (.slice A xs.length ca)), (1, .v (.slice B ys.length cb)), (5, .v (.int .i64 i))], []⟩ (by kernel_rfl) ?_
      have hx_d4 := hx
      have hy_d4 := hy
      refine XD.open (id := 6) (arr := aA B60 [1, 1, 0, 1, 0, 0, 1, 0, 0, 0]) 10 [] [] [] (by kernel_rfl) (by kernel_rfl) (by kernel_rfl) (by kernel_rfl) (by kernel_rfl) trivial (by simp) rfl (fun ρ0 => ?_)
      refine XD.take (i := 0) (l' := (lb 10 1)) (oA B60 [1, 1, 0, 1, 0, 0, 1, 0, 0, 0] 0) (.v (.slice A xs.length ca)) QOk.ctxG (by kernel_rfl) (by kernel_rfl) (by kernel_rfl) (by kernel_rfl) (by kernel_rfl) ?_
      refine XD.take (i := 1) (l' := (lb 10 3)) (oA B60 [1, 1, 0, 1, 0, 0, 1, 0, 0, 0] 1) (.v (.int .i64 i)) QOk.ctxG (by kernel_rfl) (by kernel_rfl) (by kernel_rfl) (by kernel_rfl) (by kernel_rfl) ?_
      have b5 : (0 : Int) ≤ i := by omega
      have b6 : i < ((xs.length : Nat) : Int) := by omega
      obtain ⟨A7, c7, at7, kr7, le7, mx7, hr7⟩ := At.opt [] hx_d4 ((i).toNat) (by omega)
      simp only [IntKind.lo, IntKind.hi, maxLen] at kr7 mx7
      refine XD.index (i := 2) (l' := (lb 10 7)) (o := (oA B60 [1, 1, 0, 1, 0, 0, 1, 0, 0, 0] 2)) (t := 59) (e := 65) (sz := 3) (A := A) (n := xs.length) (c := ca) (ki := .i64) (j := i) (x := .tmp 17) (ix := .tmp 18) QOk.ctxG (by kernel_rfl) (by kernel_rfl) (by kernel_rfl) (by kernel_rfl) (by kernel_rfl) (by kernel_rfl) (by kernel_rfl) (by kernel_rfl) b5 b6 (fun _ _ => rowAt.so hx_d4 (by omega)) (by kernel_rfl) ?_
      refine XD.load (i := 3) (l' := (lb 10 15)) (o := (oA B60 [1, 1, 0, 1, 0, 0, 1, 0, 0, 0] 3)) (t := 65) (A := A) (j := (i).toNat * 3) (x := .tmp 19) (z := .agg #[.int .i64 ((xs.getD ((i).toNat) opt0).1), .slice A7 ((xs.getD ((i).toNat) opt0).2.1.length) c7, .string ((xs.getD ((i).toNat) opt0).2.2)]) [.int .i64 ((xs.getD ((i).toNat) opt0).1), .slice A7 ((xs.getD ((i).toNat) opt0).2.1.length) c7, .string ((xs.getD ((i).toNat) opt0).2.2)] QOk.ctxG (by kernel_rfl) (by kernel_rfl) (by kernel_rfl) (by kernel_rfl) (by kernel_rfl) at7 (by kernel_rfl) (by kernel_rfl) ?_
      refine XD.take (i := 4) (l' := (lb 10 31)) (oA B60 [1, 1, 0, 1, 0, 0, 1, 0, 0, 0] 4) (.v (.slice B ys.length cb)) QOk.ctxG (by kernel_rfl) (by kernel_rfl) (by kernel_rfl) (by kernel_rfl) (by kernel_rfl) ?_
      refine XD.take (i := 5) (l' := (lb 10 63)) (oA B60 [1, 1, 0, 1, 0, 0, 1, 0, 0, 0] 5) (.v (.int .i64 i)) QOk.ctxG (by kernel_rfl) (by kernel_rfl) (by kernel_rfl) (by kernel_rfl) (by kernel_rfl) ?_
      have b8 : (0 : Int) ≤ i := by omega
      have b9 : i < ((ys.length : Nat) : Int) := by omega
      obtain ⟨A10, c10, at10, kr10, le10, mx10, hr10⟩ := At.opt [] hy_d4 ((i).toNat) (by omega)
      simp only [IntKind.lo, IntKind.hi, maxLen] at kr10 mx10
      refine XD.index (i := 6) (l' := (lb 10 127)) (o := (oA B60 [1, 1, 0, 1, 0, 0, 1, 0, 0, 0] 6)) (t := 59) (e := 65) (sz := 3) (A := B) (n := ys.length) (c := cb) (ki := .i64) (j := i) (x := .tmp 21) (ix := .tmp 22) QOk.ctxG (by kernel_rfl) (by kernel_rfl) (by kernel_rfl) (by kernel_rfl) (by kernel_rfl) (by kernel_rfl) (by kernel_rfl) (by kernel_rfl) b8 b9 (fun _ _ => rowAt.so hy_d4 (by omega)) (by kernel_rfl) ?_
      refine XD.load (i := 7) (l' := (lb 10 255)) (o := (oA B60 [1, 1, 0, 1, 0, 0, 1, 0, 0, 0] 7)) (t := 65) (A := B) (j := (i).toNat * 3) (x := .tmp 23) (z := .agg #[.int .i64 ((ys.getD ((i).toNat) opt0).1), .slice A10 ((ys.getD ((i).toNat) opt0).2.1.length) c10, .string ((ys.getD ((i).toNat) opt0).2.2)]) [.int .i64 ((ys.getD ((i).toNat) opt0).1), .slice A10 ((ys.getD ((i).toNat) opt0).2.1.length) c10, .string ((ys.getD ((i).toNat) opt0).2.2)] QOk.ctxG (by kernel_rfl) (by kernel_rfl) (by kernel_rfl) (by kernel_rfl) (by kernel_rfl) at10 (by kernel_rfl) (by kernel_rfl) ?_
      refine XD.norm [0, 1, 5, 20, 24] [] ⟨27, [(0, .v (.slice A xs.length ca)), (1, .v (.slice B ys.length cb)), (5, .v (.int .i64 i)), (20, .v (.agg #[.int .i64 ((xs.getD ((i).toNat) opt0).1), .slice A7 ((xs.getD ((i).toNat) opt0).2.1.length) c7, .string ((xs.getD ((i).toNat) opt0).2.2)])), (24, .v (.agg #[.int .i64 ((ys.getD ((i).toNat) opt0).1), .slice A10 ((ys.getD ((i).toNat) opt0).2.1.length) c10, .string ((ys.getD ((i).toNat) opt0).2.2)]))], []⟩ (by kernel_rfl) trivial ?_
      refine XD.one (i := 8) (l' := (lb 10 511)) (oA B60 [1, 1, 0, 1, 0, 0, 1, 0, 0, 0] 8) (by kernel_rfl) (by kernel_rfl) (by kernel_rfl) ?_
      refine X.callG (f := 52) (l := [.v (.agg #[.int .i64 ((xs.getD ((i).toNat) opt0).1), .slice A7 ((xs.getD ((i).toNat) opt0).2.1.length) c7, .string ((xs.getD ((i).toNat) opt0).2.2)]), .v (.agg #[.int .i64 ((ys.getD ((i).toNat) opt0).1), .slice A10 ((ys.getD ((i).toNat) opt0).2.1.length) c10, .string ((ys.getD ((i).toNat) opt0).2.2)])]) [.agg #[.int .i64 ((xs.getD ((i).toNat) opt0).1), .slice A7 ((xs.getD ((i).toNat) opt0).2.1.length) c7, .string ((xs.getD ((i).toNat) opt0).2.2)], .agg #[.int .i64 ((ys.getD ((i).toNat) opt0).1), .slice A10 ((ys.getD ((i).toNat) opt0).2.1.length) c10, .string ((ys.getD ((i).toNat) opt0).2.2)]] 0 (by kernel_rfl) (by kernel_rfl) (by kernel_rfl) (Same_ok ((xs.getD ((i).toNat) opt0).1) ((ys.getD ((i).toNat) opt0).1) A7 A10 c7 c10 ((xs.getD ((i).toNat) opt0).2.1) ((ys.getD ((i).toNat) opt0).2.1) ((xs.getD ((i).toNat) opt0).2.2) ((ys.getD ((i).toNat) opt0).2.2) _ hr7 hr10 le7 le10 mx7 mx10) ?_
      rintro v11 G11 rows11 hG11 ⟨rfl, rfl⟩
      replace hx := hx.mono hG11.le
      replace hy := hy.mono hG11.le
      replace hr7 := hr7.mono hG11.le
      replace hr10 := hr10.mono hG11.le
      refine X.back ⟨trivial, hG11.le, rfl, ?_⟩
      refine XD.take (i := 9) (l' := (lb 10 1023)) (oA B60 [1, 1, 0, 1, 0, 0, 1, 0, 0, 0] 9) (.v (.bool (!(decide (((xs.getD ((i).toNat) opt0).1 : Int) = (ys.getD ((i).toNat) opt0).1 ∧ ((xs.getD ((i).toNat) opt0).2.2 : ByteArray) = (ys.getD ((i).toNat) opt0).2.2 ∧ ((xs.getD ((i).toNat) opt0).2.1 : List Int) = (ys.getD ((i).toNat) opt0).2.1))))) QOk.ctxG (by kernel_rfl) (by kernel_rfl) (by kernel_rfl) (by kernel_rfl) (by kernel_rfl) ?_
      refine XD.done (by kernel_rfl) ?_
      refine X.run 1 [0, 1, 5, 26] [] (.code (cA B60 [1, 1, 0, 1, 0, 0, 1, 0, 0, 1])) [.blk 1, .seq (cA B60 [1, 1, 0, 1, 0, 0, 1, 1]), .loop J2, .blk 0, .seq (cA B60 [1, 1, 1])] ⟨27, [(0, .v (.slice A xs.length ca)), (1, .v (.slice B ys.length cb)), (5, .v (.int .i64 i)), (26, .v (.bool (!(decide (((xs.getD ((i).toNat) opt0).1 : Int) = (ys.getD ((i).toNat) opt0).1 ∧ ((xs.getD ((i).toNat) opt0).2.2 : ByteArray) = (ys.getD ((i).toNat) opt0).2.2 ∧ ((xs.getD ((i).toNat) opt0).2.1 : List Int) = (ys.getD ((i).toNat) opt0).2.1)))))], []⟩ (by kernel_rfl) ?_
      refine X.split 26 rfl (fun h12 => ?_) (fun h12 => ?_)
      · -- slot 26: !(decide (((xs.getD ((i).toNat) opt0).1 : Int) = (ys.getD ((i).toNat) opt0).1 ∧ ((xs.getD ((i).toNat) opt0).2.2 : ByteArray) = (ys.getD ((i).toNat) opt0).2.2 ∧ ((xs.getD ((i).toNat) opt0).2.1 : List Int) = (ys.getD ((i).toNat) opt0).2.1)) is True
        replace h12 : (decide (((xs.getD ((i).toNat) opt0).1 : Int) = (ys.getD ((i).toNat) opt0).1 ∧ ((xs.getD ((i).toNat) opt0).2.2 : ByteArray) = (ys.getD ((i).toNat) opt0).2.2 ∧ ((xs.getD ((i).toNat) opt0).2.1 : List Int) = (ys.getD ((i).toNat) opt0).2.1)) = false := by first | (simpa using h12; done) | (have h_ := congrArg (fun b_ => !b_) h12; simpa only [Bool.not_not, Bool.not_true, Bool.not_false] using h_)
        replace h12 : ¬ (((xs.getD ((i).toNat) opt0).1 : Int) = (ys.getD ((i).toNat) opt0).1 ∧ ((xs.getD ((i).toNat) opt0).2.2 : ByteArray) = (ys.getD ((i).toNat) opt0).2.2 ∧ ((xs.getD ((i).toNat) opt0).2.1 : List Int) = (ys.getD ((i).toNat) opt0).2.1) := of_decide_eq_false h12
        refine X.run 12 [4] [] (.ex .ret) [] ⟨27, [(4, .v (.bool false))], []⟩ (by kernel_rfl) ?_
        refine doneG (.inl rfl) [.bool false] [] (by kernel_rfl) rfl rfl ((hG2.trans hG11)) ?_
        -- end 2 (FTT)
        exact ⟨congrArg Value.bool (by rw [eq_comm, decide_eq_false_iff_not]; intro e_; subst e_; exact (show ¬ (_ ∧ _ ∧ _) by assumption) ⟨rfl, rfl, rfl⟩), rfl⟩
      · -- slot 26: !(decide (((xs.getD ((i).toNat) opt0).1 : Int) = (ys.getD ((i).toNat) opt0).1 ∧ ((xs.getD ((i).toNat) opt0).2.2 : ByteArray) = (ys.getD ((i).toNat) opt0).2.2 ∧ ((xs.getD ((i).toNat) opt0).2.1 : List Int) = (ys.getD ((i).toNat) opt0).2.1)) is False
        replace h12 : (decide (((xs.getD ((i).toNat) opt0).1 : Int) = (ys.getD ((i).toNat) opt0).1 ∧ ((xs.getD ((i).toNat) opt0).2.2 : ByteArray) = (ys.getD ((i).toNat) opt0).2.2 ∧ ((xs.getD ((i).toNat) opt0).2.1 : List Int) = (ys.getD ((i).toNat) opt0).2.1)) = true := by first | (simpa using h12; done) | (have h_ := congrArg (fun b_ => !b_) h12; simpa only [Bool.not_not, Bool.not_true, Bool.not_false] using h_)
        replace h12 : ((xs.getD ((i).toNat) opt0).1 : Int) = (ys.getD ((i).toNat) opt0).1 ∧ ((xs.getD ((i).toNat) opt0).2.2 : ByteArray) = (ys.getD ((i).toNat) opt0).2.2 ∧ ((xs.getD ((i).toNat) opt0).2.1 : List Int) = (ys.getD ((i).toNat) opt0).2.1 := of_decide_eq_true h12
        refine X.run 9 [0, 1, 5] [] (.ex .normal) [.loop J2, .blk 0, .seq (cA B60 [1, 1, 1])] ⟨27, [(0, .v (.slice A xs.length ca)), (1, .v (.slice B ys.length cb)), (5, .v (.int .i64 (IntKind.i64.wrap (i + 1))))], []⟩ (by kernel_rfl) ?_
        -- again (FTF)
        have e1 : IntKind.i64.wrap (i + 1) = i + 1 := wi64 (by omega) (by omega)
        have e0 : (i + 1).toNat = i.toNat + 1 := by omega
        exact X.again (hJ2 _ _ _ _ ⟨IntKind.i64.wrap (i + 1), rfl, rfl, (hG2.trans hG11), ⟨by omega, by omega, by rw [e1, e0]; exact take_extO hi2 (by omega) (by omega) (by assumption)⟩, rfl⟩ (by rw [e1]; omega))
    · -- slot 14: decide (i < ((xs.length : Nat) : Int)) is False
      replace h3 : ¬ (i < ((xs.length : Nat) : Int)) := of_decide_eq_false h3
      refine X.run 12 [4] [] (.ex .ret) [] ⟨27, [(4, .v (.bool true))], []⟩ (by kernel_rfl) ?_
      refine doneG (.inl rfl) [.bool true] [] (by kernel_rfl) rfl rfl (hG2) ?_
      -- end 3 (FF)
      have hl_ : xs.length = ys.length := by omega
      have h1_ := hi2
      rw [List.take_of_length_le (by omega), List.take_of_length_le (by omega)] at h1_
      exact ⟨congrArg Value.bool (by rw [eq_comm, decide_eq_true_iff]; exact h1_), rfl⟩

/-- leat/leatlaw12.OptionParses -/
noncomputable def B13 : Code := bodyOf Try.f13
set_option maxHeartbeats 1000000 in
theorem OptionParses_ok (A : Option Addr) (c : Nat) (ns : List Int) (G : Mem) (hr : rowAt (D.int .u8) G A ns) (hle : ns.length ≤ c) (hmx : c ≤ maxLen) : CallsG Try.prog 13 [.slice A ns.length c] G (fun _ v rows => v = .bool true ∧ rows = []) := by
  simp only [maxLen] at hmx
  refine CallsG.enter Try.func13 rfl rfl ?_
  intro w
  refine X.run 11 [0, 2, 7, 10] [] (.ops (aA B13 [1, 0]) (oA B13 [1, 0] 4 :: lA B13 [1, 0] 5)) [.seq (cA B13 [1, 1])] ⟨33, [(0, .v (.slice A ns.length c)), (2, .v (.bool false)), (7, .v (.slice A ns.length c)), (10, .v (.int .i64 (imin ((ns.length : Nat) : Int) 60)))], []⟩ (by kernel_rfl) ?_
  refine X.known 10 (y := .v (.int .i64 (min ((ns.length : Nat) : Int) 60))) rfl (congrArg (fun z_ => AV.v (.int .i64 z_)) (by simp only [imin_eq, imax_eq])) ?_
  have hlo1 : 0 ≤ (min ((ns.length : Nat) : Int) 60).toNat := by omega
  have hhi1 : (min ((ns.length : Nat) : Int) 60).toNat ≤ ns.length := by omega
  refine X.cut (t := 22) (e := 5) (sz := 1) (n := ns.length) (c := c) (A := A) (x := .tmp 7) (l := none) (h := (some (.tmp 10))) (lv := none) (hv := (some (.int .i64 (min ((ns.length : Nat) : Int) 60)))) 0 ((min ((ns.length : Nat) : Int) 60).toNat) (by kernel_rfl) (by kernel_rfl) (by kernel_rfl) (by kernel_rfl) (by kernel_rfl) (by kernel_rfl) (by kernel_rfl) (rfl) (⟨_, _, rfl, by omega, rfl⟩) hlo1 (Nat.le_trans hhi1 hle) ?_
  obtain ⟨A1, hA1⟩ : ∃ A_, cutA A c 0 1 = A_ := ⟨_, rfl⟩
  obtain ⟨ys1, hys1⟩ : ∃ l_, (ns.take ((min ((ns.length : Nat) : Int) 60).toNat)).drop 0 = l_ := ⟨_, rfl⟩
  have hr1 : rowAt (D.int .u8) G (cutA A c 0 1) ((ns.take ((min ((ns.length : Nat) : Int) 60).toNat)).drop 0) := rowAt_cut hr hlo1 hhi1 hle
  have hl1 : ((min ((ns.length : Nat) : Int) 60).toNat) - 0 = ys1.length := by rw [← hys1, List.length_drop, List.length_take]; omega
  have hc1 : ys1.length ≤ c - 0 := by omega
  have hm1 : c - 0 ≤ maxLen := Nat.le_trans (Nat.sub_le _ _) hmx
  rw [hys1, show cutA A c 0 _ = A1 from hA1] at hr1
  rw [hA1, hl1]
  refine X.run 6 [0, 2, 13] [] (.ops (aA B13 [1, 1, 0]) (oA B13 [1, 1, 0] 1 :: lA B13 [1, 1, 0] 2)) [.seq (cA B13 [1, 1, 1])] ⟨33, [(0, .v (.slice A1 ys1.length (c - 0))), (2, .v (.bool false)), (13, .v (.slice A1 ys1.length (c - 0)))], []⟩ (by kernel_rfl) ?_
  refine X.callG (f := 58) (l := [.v (.slice A1 ys1.length (c - 0))]) [.slice A1 ys1.length (c - 0)] 26 (by kernel_rfl) (by kernel_rfl) (by kernel_rfl) (Parse_ok A1 (c - 0) ys1 _ hr1 hc1 hm1) ?_
  rintro v2 G2 rows2 hG2 ⟨A2, c2, cs2, rfl, rfl, hcs2⟩
  replace hr := hr.mono hG2.le
  replace hr1 := hr1.mono hG2.le
  refine X.asR (R' := [(26, ⟨65, 3, .slice A2 ((optP ys1).1.length) c2, (optP ys1).1.length, cs2⟩)]) rfl ?_
  refine X.capLe (i := 26) (q := ⟨65, 3, .slice A2 ((optP ys1).1.length) c2, (optP ys1).1.length, cs2⟩) (n := (optP ys1).1.length) (c := c2) (A := A2) rfl rfl ?_
  intro hle2 hmx2
  refine X.freezeD (d := optD) (i := 26) (n := (optP ys1).1.length) (c := c2) (A := A2) ((optP ys1).1) rfl hcs2 (by decide) (by kernel_rfl) (fun _ h => h) ?_
  intro G3 hG3 hr3
  replace hr := hr.mono hG3.le
  replace hr1 := hr1.mono hG3.le
  refine X.run 10 [2, 3, 4, 18] [] (.ops (aA B13 [1, 1, 1, 0]) (oA B13 [1, 1, 1, 0] 1 :: lA B13 [1, 1, 1, 0] 2)) [.seq (cA B13 [1, 1, 1, 1])] ⟨33, [(2, .v (.bool false)), (3, .v (.slice A2 ((optP ys1).1.length) c2)), (4, .v (.int .i64 ((optP ys1).2))), (18, .v (.slice A1 ys1.length (c - 0)))], []⟩ (by kernel_rfl) ?_
  refine X.callG (f := 59) (l := [.v (.slice A1 ys1.length (c - 0))]) [.slice A1 ys1.length (c - 0)] 27 (by kernel_rfl) (by kernel_rfl) (by kernel_rfl) (rParse_ok A1 (c - 0) ys1 _ hr1 hc1 hm1) ?_
  rintro v4 G4 rows4 hG4 ⟨A4, c4, cs4, rfl, rfl, hcs4⟩
  replace hr := hr.mono hG4.le
  replace hr1 := hr1.mono hG4.le
  replace hr3 := hr3.mono hG4.le
  refine X.asR (R' := [(27, ⟨65, 3, .slice A4 ((optP ys1).1.length) c4, (optP ys1).1.length, cs4⟩)]) rfl ?_
  refine X.capLe (i := 27) (q := ⟨65, 3, .slice A4 ((optP ys1).1.length) c4, (optP ys1).1.length, cs4⟩) (n := (optP ys1).1.length) (c := c4) (A := A4) rfl rfl ?_
  intro hle4 hmx4
  refine X.freezeD (d := optD) (i := 27) (n := (optP ys1).1.length) (c := c4) (A := A4) ((optP ys1).1) rfl hcs4 (by decide) (by kernel_rfl) (fun _ h => h) ?_
  intro G5 hG5 hr5
  replace hr := hr.mono hG5.le
  replace hr1 := hr1.mono hG5.le
  replace hr3 := hr3.mono hG5.le
  refine X.run 11 [2, 4, 6, 22, 23] [] (.ops (aA B13 [1, 1, 1, 1, 0]) (oA B13 [1, 1, 1, 1, 0] 2 :: lA B13 [1, 1, 1, 1, 0] 3)) [.seq (cA B13 [1, 1, 1, 1, 1])] ⟨33, [(2, .v (.bool false)), (4, .v (.int .i64 ((optP ys1).2))), (6, .v (.int .i64 ((optP ys1).2))), (22, .v (.slice A2 ((optP ys1).1.length) c2)), (23, .v (.slice A4 ((optP ys1).1.length) c4))], []⟩ (by kernel_rfl) ?_
  refine X.callG (f := 60) (l := [.v (.slice A2 ((optP ys1).1.length) c2), .v (.slice A4 ((optP ys1).1.length) c4)]) [.slice A2 ((optP ys1).1.length) c2, .slice A4 ((optP ys1).1.length) c4] 0 (by kernel_rfl) (by kernel_rfl) (by kernel_rfl) (All_ok A2 A4 c2 c4 ((optP ys1).1) ((optP ys1).1) _ hr3 hr5 hle2 hle4 hmx2 hmx4) ?_
  rintro v6 G6 rows6 hG6 ⟨rfl, rfl⟩
  replace hr := hr.mono hG6.le
  replace hr1 := hr1.mono hG6.le
  replace hr3 := hr3.mono hG6.le
  replace hr5 := hr5.mono hG6.le
  refine X.run 1 [2, 4, 6, 25] [] (.ops (aA B13 [1, 1, 1, 1, 0]) (oA B13 [1, 1, 1, 1, 0] 4 :: lA B13 [1, 1, 1, 1, 0] 5)) [.seq (cA B13 [1, 1, 1, 1, 1])] ⟨33, [(2, .v (.bool false)), (4, .v (.int .i64 ((optP ys1).2))), (6, .v (.int .i64 ((optP ys1).2))), (25, .v (.bool (decide (((optP ys1).1 : List Opt) = (optP ys1).1))))], []⟩ (by kernel_rfl) ?_
  refine X.isTrue 25 rfl (by simp) ?_
  refine X.run 5 [2, 30] [] (.ops (aA B13 [1, 1, 1, 1, 0]) (oA B13 [1, 1, 1, 1, 0] 9 :: lA B13 [1, 1, 1, 1, 0] 10)) [.seq (cA B13 [1, 1, 1, 1, 1])] ⟨33, [(2, .v (.bool false)), (30, .v (.bool (((optP ys1).2) == ((optP ys1).2))))], []⟩ (by kernel_rfl) ?_
  refine X.isTrue 30 rfl (by simp) ?_
  refine X.callG (f := 53) (l := []) [] 0 (by kernel_rfl) (by kernel_rfl) (by kernel_rfl) (works12_ok _) ?_
  rintro v7 G7 rows7 hG7 ⟨rfl, rfl⟩
  replace hr := hr.mono hG7.le
  replace hr1 := hr1.mono hG7.le
  replace hr3 := hr3.mono hG7.le
  replace hr5 := hr5.mono hG7.le
  refine X.run 5 [2] [] (.ex .ret) [] ⟨33, [(2, .v (.bool true))], []⟩ (by kernel_rfl) ?_
  refine doneG (.inl rfl) [.bool true] [] (by kernel_rfl) rfl rfl ((((((hG2.trans hG3).trans hG4).trans hG5).trans hG6).trans hG7)) ?_
  -- end 1 ()
  exact ⟨rfl, rfl⟩
end Go.Proofs.YtjgpdbkkpomhjaaX
