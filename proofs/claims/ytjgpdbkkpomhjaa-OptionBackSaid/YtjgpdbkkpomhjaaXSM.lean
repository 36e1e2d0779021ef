/- leatref12.Same -/
import Derived.Test.YtjgpdbkkpomhjaaProg
import Derived.KernelRfl
import Derived.Test.YtjgpdbkkpomhjaaXP
import Derived.Test.YtjgpdbkkpomhjaaXI
import Derived.Test.YtjgpdbkkpomhjaaXJ
import Derived.Test.YtjgpdbkkpomhjaaX4
namespace Go.Proofs.YtjgpdbkkpomhjaaX
open Go.RowKit
set_option linter.unusedVariables false
set_option linter.unusedSimpArgs false
set_option maxRecDepth 100000
/-- leat/option.Acc -/
noncomputable def B56 : Code := bodyOf Try.f56

/-- slices.Reverse[[]int64,int64] -/
noncomputable def B116 : Code := bodyOf Try.f116

theorem take_ext {xs ys : List Int} {i : Nat} (h : xs.take i = ys.take i) (hi : i < xs.length) (hj : i < ys.length) (he : xs.getD i 0 = ys.getD i 0) : xs.take (i + 1) = ys.take (i + 1) := by
  rw [List.take_succ_eq_append_getElem hi, List.take_succ_eq_append_getElem hj, h]
  simp [hi, hj] at he
  rw [he]

/-- leat/leatref12.Same -/
noncomputable def B52 : Code := bodyOf Try.f52
set_option maxHeartbeats 1000000 in
theorem Same_ok (k1 k2 : Int) (A B : Option Addr) (ca cb : Nat) (xs ys : List Int) (s1 s2 : ByteArray) (G : Mem) (hx : rowAt (D.int .u32) G A xs) (hy : rowAt (D.int .u32) G B ys) (hxc : xs.length ≤ ca) (hyc : ys.length ≤ cb) (hxm : ca ≤ maxLen) (hym : cb ≤ maxLen) : CallsG Try.prog 52 [.agg #[.int .i64 k1, .slice A xs.length ca, .string s1], .agg #[.int .i64 k2, .slice B ys.length cb, .string s2]] G (fun _ v rows => v = .bool (decide (k1 = k2 ∧ s1 = s2 ∧ xs = ys)) ∧ rows = []) := by
  simp only [maxLen] at hxm hym
  refine CallsG.enter Try.func52 rfl rfl ?_
  intro w
  refine X.run 16 [2, 3, 4, 11] [2, 3] (.ops (aA B52 [1, 0, 0]) (oA B52 [1, 0, 0] 6 :: lA B52 [1, 0, 0] 7)) [.seq (cA B52 [1, 0, 1]), .seq (cA B52 [1, 1])] ⟨45, [(2, .own 2 0), (3, .own 3 0), (4, .v (.bool false)), (11, .v (.bool (k1 != k2)))], [(2, ⟨65, [.v (.int .i64 k1), .v (.slice A xs.length ca), .v (.string s1)]⟩), (3, ⟨65, [.v (.int .i64 k2), .v (.slice B ys.length cb), .v (.string s2)]⟩)]⟩ (by kernel_rfl) ?_
  refine X.split 11 rfl (fun h1 => ?_) (fun h1 => ?_)
  · -- slot 11: k1 != k2 is True
    replace h1 : k1 ≠ k2 := by simpa using h1
    refine X.run 25 [4] [] (.ex .ret) [] ⟨45, [(4, .v (.bool false))], []⟩ (by kernel_rfl) ?_
    refine doneG (.inl rfl) [.bool false] [] (by kernel_rfl) rfl rfl (Ge.refl _ _) ?_
    -- end 1 (T)
    exact ⟨congrArg Value.bool (by rw [eq_comm, decide_eq_false_iff_not]; rintro ⟨e1_, e2_, e3_⟩; subst e3_; first | contradiction | (simp_all; done) | omega), rfl⟩
  · -- slot 11: k1 != k2 is False
    replace h1 : k1 = k2 := by simpa using h1
    refine X.run 7 [2, 3, 4, 18] [2, 3] (.ops (aA B52 [1, 0, 0]) (oA B52 [1, 0, 0] 13 :: lA B52 [1, 0, 0] 14)) [.seq (cA B52 [1, 0, 1]), .seq (cA B52 [1, 1])] ⟨45, [(2, .own 2 0), (3, .own 3 0), (4, .v (.bool false)), (18, .v (.bool (!(s1.toList == s2.toList))))], [(2, ⟨65, [.v (.int .i64 k1), .v (.slice A xs.length ca), .v (.string s1)]⟩), (3, ⟨65, [.v (.int .i64 k2), .v (.slice B ys.length cb), .v (.string s2)]⟩)]⟩ (by kernel_rfl) ?_
    refine X.split 18 rfl (fun h2 => ?_) (fun h2 => ?_)
    · -- slot 18: !(s1.toList == s2.toList) is True
      replace h2 : (s1.toList == s2.toList) = false := by simpa using h2
      replace h2 : s1 ≠ s2 := strF h2
      refine X.run 18 [4] [] (.ex .ret) [] ⟨45, [(4, .v (.bool false))], []⟩ (by kernel_rfl) ?_
      refine doneG (.inl rfl) [.bool false] [] (by kernel_rfl) rfl rfl (Ge.refl _ _) ?_
      -- end 2 (FT)
      exact ⟨congrArg Value.bool (by rw [eq_comm, decide_eq_false_iff_not]; rintro ⟨e1_, e2_, e3_⟩; subst e3_; first | contradiction | (simp_all; done) | omega), rfl⟩
    · -- slot 18: !(s1.toList == s2.toList) is False
      replace h2 : (s1.toList == s2.toList) = true := by simpa using h2
      replace h2 : s1 = s2 := strT h2
      refine X.run 10 [2, 3, 4, 26] [2, 3] (.code (cA B52 [1, 0, 1])) [.seq (cA B52 [1, 1])] ⟨45, [(2, .own 2 0), (3, .own 3 0), (4, .v (.bool false)), (26, .v (.bool (((xs.length : Nat) : Int) != ((ys.length : Nat) : Int))))], [(2, ⟨65, [.v (.int .i64 k1), .v (.slice A xs.length ca), .v (.string s1)]⟩), (3, ⟨65, [.v (.int .i64 k2), .v (.slice B ys.length cb), .v (.string s2)]⟩)]⟩ (by kernel_rfl) ?_
      refine X.split 26 rfl (fun h3 => ?_) (fun h3 => ?_)
      · -- slot 26: ((xs.length : Nat) : Int) != ((ys.length : Nat) : Int) is True
        replace h3 : ((xs.length : Nat) : Int) ≠ ((ys.length : Nat) : Int) := by simpa using h3
        refine X.run 8 [4] [] (.ex .ret) [] ⟨45, [(4, .v (.bool false))], []⟩ (by kernel_rfl) ?_
        refine doneG (.inl rfl) [.bool false] [] (by kernel_rfl) rfl rfl (Ge.refl _ _) ?_
        -- end 3 (FFT)
        exact ⟨congrArg Value.bool (by rw [eq_comm, decide_eq_false_iff_not]; rintro ⟨e1_, e2_, e3_⟩; subst e3_; first | contradiction | (simp_all; done) | omega), rfl⟩
      · -- slot 26: ((xs.length : Nat) : Int) != ((ys.length : Nat) : Int) is False
        replace h3 : ((xs.length : Nat) : Int) = ((ys.length : Nat) : Int) := by simpa using h3
        refine X.run 10 [2, 3, 4, 5] [2, 3] (.code (cA B52 [1, 1, 0, 1, 0])) [.blk 0, .seq (cA B52 [1, 1, 1])] ⟨45, [(2, .own 2 0), (3, .own 3 0), (4, .v (.bool false)), (5, .v (.int .i64 0))], [(2, ⟨65, [.v (.int .i64 k1), .v (.slice A xs.length ca), .v (.string s1)]⟩), (3, ⟨65, [.v (.int .i64 k2), .v (.slice B ys.length cb), .v (.string s2)]⟩)]⟩ (by kernel_rfl) ?_
        refine X.run 0 [2, 3, 5] [2, 3] (.code (cA B52 [1, 1, 0, 1, 0])) [.blk 0, .seq (cA B52 [1, 1, 1])] ⟨45, [(2, .own 2 0), (3, .own 3 0), (5, .v (.int .i64 0))], [(2, ⟨65, [.v (.int .i64 k1), .v (.slice A xs.length ca), .v (.string s1)]⟩), (3, ⟨65, [.v (.int .i64 k2), .v (.slice B ys.length cb), .v (.string s2)]⟩)]⟩ (by kernel_rfl) ?_
        refine X.loopJ (fun m s R' G' => ∃ (i : Int), s = ⟨45, [(2, .own 2 0), (3, .own 3 0), (5, .v (.int .i64 i))], [(2, ⟨65, [.v (.int .i64 k1), .v (.slice A xs.length ca), .v (.string s1)]⟩), (3, ⟨65, [.v (.int .i64 k2), .v (.slice B ys.length cb), .v (.string s2)]⟩)]⟩ ∧ R' = [] ∧ G = G' ∧ (0 ≤ i ∧ i ≤ (xs.length : Int) ∧ xs.take i.toNat = ys.take i.toNat) ∧ m = ((xs.length : Int) - i).toNat) _ ⟨0, rfl, rfl, rfl, ⟨by omega, by omega, rfl⟩, rfl⟩ ?_
        rintro m4 s4 R4 G4 ⟨i, rfl, rfl, rfl, hF4, rfl⟩ J4 hJ4
        have hS := hF4
        obtain ⟨hi0, hi1, hi2⟩ := hF4
        refine X.run 10 [2, 3, 5, 31] [2, 3] (.code (cA B52 [1, 1, 0, 1, 0, 0, 0, 1])) [.seq (cA B52 [1, 1, 0, 1, 0, 0, 1]), .loop J4, .blk 0, .seq (cA B52 [1, 1, 1])] ⟨45, [(2, .own 2 0), (3, .own 3 0), (5, .v (.int .i64 i)), (31, .v (.bool (decide (i < ((xs.length : Nat) : Int)))))], [(2, ⟨65, [.v (.int .i64 k1), .v (.slice A xs.length ca), .v (.string s1)]⟩), (3, ⟨65, [.v (.int .i64 k2), .v (.slice B ys.length cb), .v (.string s2)]⟩)]⟩ (by kernel_rfl) ?_
        refine X.split 31 rfl (fun h5 => ?_) (fun h5 => ?_)
        · -- slot 31: decide (i < ((xs.length : Nat) : Int)) is True
          replace h5 : i < ((xs.length : Nat) : Int) := of_decide_eq_true h5
          refine X.run 6 [2, 3, 5] [2, 3] (.code (cA B52 [1, 1, 0, 1, 0, 0, 1, 0, 0, 0])) [.seq (cA B52 [1, 1, 0, 1, 0, 0, 1, 0, 0, 1]), .blk 1, .seq (cA B52 [1, 1, 0, 1, 0, 0, 1, 1]), .loop J4, .blk 0, .seq (cA B52 [1, 1, 1])] ⟨45, [(2, .own 2 0), (3, .own 3 0), (5, .v (.int .i64 i))], [(2, ⟨65, [.v (.int .i64 k1), .v (.slice A xs.length ca), .v (.string s1)]⟩), (3, ⟨65, [.v (.int .i64 k2), .v (.slice B ys.length cb), .v (.string s2)]⟩)]⟩ (by kernel_rfl) ?_
          have hx_d6 := hx
          have hy_d6 := hy
          refine XD.open (id := 6) (arr := aA B52 [1, 1, 0, 1, 0, 0, 1, 0, 0, 0]) 11 [⟨some 2, 2, 65, [.v (.int .i64 k1), .v (.slice A xs.length ca), .v (.string s1)]⟩, ⟨some 3, 3, 65, [.v (.int .i64 k2), .v (.slice B ys.length cb), .v (.string s2)]⟩] [] [] (by kernel_rfl) (by kernel_rfl) (by kernel_rfl) (by kernel_rfl) (by kernel_rfl) ⟨⟨fun _ h => (by cases h; rfl), rfl⟩, ⟨fun _ h => (by cases h; rfl), rfl⟩, trivial⟩ (by intro p hp hn; simp only [List.mem_cons, List.not_mem_nil, or_false] at hp; rcases hp with rfl | rfl <;> first | (cases hn; done) | exact absurd _ (Nat.le_of_ble_eq_true rfl)) rfl (fun ρ0 => ?_)
          refine XD.take (i := 0) (l' := (lb 11 1)) (oA B52 [1, 1, 0, 1, 0, 0, 1, 0, 0, 0] 0) (.own 2 1) QOk.ctxG (by kernel_rfl) (by kernel_rfl) (by kernel_rfl) (by kernel_rfl) (by kernel_rfl) ?_
          refine XD.take (i := 1) (l' := (lb 11 3)) (oA B52 [1, 1, 0, 1, 0, 0, 1, 0, 0, 0] 1) (.v (.slice A xs.length ca)) QOk.ctxG (by kernel_rfl) (by kernel_rfl) (by kernel_rfl) (by kernel_rfl) (by kernel_rfl) ?_
          refine XD.take (i := 2) (l' := (lb 11 7)) (oA B52 [1, 1, 0, 1, 0, 0, 1, 0, 0, 0] 2) (.v (.int .i64 i)) QOk.ctxG (by kernel_rfl) (by kernel_rfl) (by kernel_rfl) (by kernel_rfl) (by kernel_rfl) ?_
          have b7 : (0 : Int) ≤ i := by omega
          have b8 : i < ((xs.length : Nat) : Int) := by omega
          obtain ⟨at9, lo9, hi9⟩ := At.int [] hx_d6 ((i).toNat) (by omega)
          simp only [IntKind.lo, IntKind.hi] at lo9 hi9
          refine XD.index (i := 3) (l' := (lb 11 15)) (o := (oA B52 [1, 1, 0, 1, 0, 0, 1, 0, 0, 0] 3)) (t := 63) (e := 29) (sz := 1) (A := A) (n := xs.length) (c := ca) (ki := .i64) (j := i) (x := .tmp 35) (ix := .tmp 36) QOk.ctxG (by kernel_rfl) (by kernel_rfl) (by kernel_rfl) (by kernel_rfl) (by kernel_rfl) (by kernel_rfl) (by kernel_rfl) (by kernel_rfl) b7 b8 (fun _ _ => rowAt.so hx_d6 (by omega)) (by kernel_rfl) ?_
          refine XD.load (i := 4) (l' := (lb 11 31)) (o := (oA B52 [1, 1, 0, 1, 0, 0, 1, 0, 0, 0] 4)) (t := 29) (A := A) (j := (i).toNat * 1) (x := .tmp 37) (z := .int .u32 (xs.getD ((i).toNat) 0)) [.int .u32 (xs.getD ((i).toNat) 0)] QOk.ctxG (by kernel_rfl) (by kernel_rfl) (by kernel_rfl) (by kernel_rfl) (by kernel_rfl) at9 (by kernel_rfl) (by kernel_rfl) ?_
          refine XD.take (i := 5) (l' := (lb 11 63)) (oA B52 [1, 1, 0, 1, 0, 0, 1, 0, 0, 0] 5) (.own 3 1) QOk.ctxG (by kernel_rfl) (by kernel_rfl) (by kernel_rfl) (by kernel_rfl) (by kernel_rfl) ?_
          refine XD.take (i := 6) (l' := (lb 11 127)) (oA B52 [1, 1, 0, 1, 0, 0, 1, 0, 0, 0] 6) (.v (.slice B ys.length cb)) QOk.ctxG (by kernel_rfl) (by kernel_rfl) (by kernel_rfl) (by kernel_rfl) (by kernel_rfl) ?_
          refine XD.take (i := 7) (l' := (lb 11 255)) (oA B52 [1, 1, 0, 1, 0, 0, 1, 0, 0, 0] 7) (.v (.int .i64 i)) QOk.ctxG (by kernel_rfl) (by kernel_rfl) (by kernel_rfl) (by kernel_rfl) (by kernel_rfl) ?_
          have b10 : (0 : Int) ≤ i := by omega
          have b11 : i < ((ys.length : Nat) : Int) := by omega
          obtain ⟨at12, lo12, hi12⟩ := At.int [] hy_d6 ((i).toNat) (by omega)
          simp only [IntKind.lo, IntKind.hi] at lo12 hi12
          refine XD.index (i := 8) (l' := (lb 11 511)) (o := (oA B52 [1, 1, 0, 1, 0, 0, 1, 0, 0, 0] 8)) (t := 63) (e := 29) (sz := 1) (A := B) (n := ys.length) (c := cb) (ki := .i64) (j := i) (x := .tmp 40) (ix := .tmp 41) QOk.ctxG (by kernel_rfl) (by kernel_rfl) (by kernel_rfl) (by kernel_rfl) (by kernel_rfl) (by kernel_rfl) (by kernel_rfl) (by kernel_rfl) b10 b11 (fun _ _ => rowAt.so hy_d6 (by omega)) (by kernel_rfl) ?_
          refine XD.load (i := 9) (l' := (lb 11 1023)) (o := (oA B52 [1, 1, 0, 1, 0, 0, 1, 0, 0, 0] 9)) (t := 29) (A := B) (j := (i).toNat * 1) (x := .tmp 42) (z := .int .u32 (ys.getD ((i).toNat) 0)) [.int .u32 (ys.getD ((i).toNat) 0)] QOk.ctxG (by kernel_rfl) (by kernel_rfl) (by kernel_rfl) (by kernel_rfl) (by kernel_rfl) at12 (by kernel_rfl) (by kernel_rfl) ?_
          refine XD.take (i := 10) (l' := (lb 11 2047)) (oA B52 [1, 1, 0, 1, 0, 0, 1, 0, 0, 0] 10) (.v (.bool ((xs.getD ((i).toNat) 0) != (ys.getD ((i).toNat) 0)))) QOk.ctxG (by kernel_rfl) (by kernel_rfl) (by kernel_rfl) (by kernel_rfl) (by kernel_rfl) ?_
          refine XD.done (by kernel_rfl) ?_
          refine X.run 1 [2, 3, 5, 44] [2, 3] (.code (cA B52 [1, 1, 0, 1, 0, 0, 1, 0, 0, 1])) [.blk 1, .seq (cA B52 [1, 1, 0, 1, 0, 0, 1, 1]), .loop J4, .blk 0, .seq (cA B52 [1, 1, 1])] ⟨45, [(2, .own 2 0), (3, .own 3 0), (5, .v (.int .i64 i)), (44, .v (.bool ((xs.getD ((i).toNat) 0) != (ys.getD ((i).toNat) 0))))], [(2, ⟨65, [.v (.int .i64 k1), .v (.slice A xs.length ca), .v (.string s1)]⟩), (3, ⟨65, [.v (.int .i64 k2), .v (.slice B ys.length cb), .v (.string s2)]⟩)]⟩ (by kernel_rfl) ?_
          refine X.split 44 rfl (fun h13 => ?_) (fun h13 => ?_)
          · -- slot 44: (xs.getD ((i).toNat) 0) != (ys.getD ((i).toNat) 0) is True
            replace h13 : (xs.getD ((i).toNat) 0) ≠ (ys.getD ((i).toNat) 0) := by simpa using h13
            refine X.run 12 [4] [] (.ex .ret) [] ⟨45, [(4, .v (.bool false))], []⟩ (by kernel_rfl) ?_
            refine doneG (.inl rfl) [.bool false] [] (by kernel_rfl) rfl rfl (Ge.refl _ _) ?_
            -- end 4 (FFFTT)
            exact ⟨congrArg Value.bool (by rw [eq_comm, decide_eq_false_iff_not]; rintro ⟨e1_, e2_, e3_⟩; subst e3_; first | contradiction | (simp_all; done) | omega), rfl⟩
          · -- slot 44: (xs.getD ((i).toNat) 0) != (ys.getD ((i).toNat) 0) is False
            replace h13 : (xs.getD ((i).toNat) 0) = (ys.getD ((i).toNat) 0) := by simpa using h13
            refine X.run 9 [2, 3, 5] [2, 3] (.ex .normal) [.loop J4, .blk 0, .seq (cA B52 [1, 1, 1])] ⟨45, [(2, .own 2 0), (3, .own 3 0), (5, .v (.int .i64 (IntKind.i64.wrap (i + 1))))], [(2, ⟨65, [.v (.int .i64 k1), .v (.slice A xs.length ca), .v (.string s1)]⟩), (3, ⟨65, [.v (.int .i64 k2), .v (.slice B ys.length cb), .v (.string s2)]⟩)]⟩ (by kernel_rfl) ?_
            -- again (FFFTF)
            have e1 : IntKind.i64.wrap (i + 1) = i + 1 := wi64 (by omega) (by omega)
            have e0 : (i + 1).toNat = i.toNat + 1 := by omega
            exact X.again (hJ4 _ _ _ _ ⟨IntKind.i64.wrap (i + 1), rfl, rfl, rfl, ⟨by omega, by omega, by rw [e1, e0]; exact take_ext hi2 (by omega) (by omega) (by assumption)⟩, rfl⟩ (by rw [e1]; omega))
        · -- slot 31: decide (i < ((xs.length : Nat) : Int)) is False
          replace h5 : ¬ (i < ((xs.length : Nat) : Int)) := of_decide_eq_false h5
          refine X.run 12 [4] [] (.ex .ret) [] ⟨45, [(4, .v (.bool true))], []⟩ (by kernel_rfl) ?_
          refine doneG (.inl rfl) [.bool true] [] (by kernel_rfl) rfl rfl (Ge.refl _ _) ?_
          -- end 5 (FFFF)
          have hl_ : xs.length = ys.length := by omega
          have h1_ := hi2
          rw [List.take_of_length_le (by omega), List.take_of_length_le (by omega)] at h1_
          exact ⟨congrArg Value.bool (by rw [eq_comm, decide_eq_true_iff]; exact ⟨by assumption, by assumption, h1_⟩), rfl⟩
end Go.Proofs.YtjgpdbkkpomhjaaX
