/- leatref12.Same, option.Counters -/
import Derived.Test.YtjgpdbkkpomhjaaProg
import Derived.KernelRfl
import Derived.Test.YtjgpdbkkpomhjaaXC5
namespace Go.Proofs.YtjgpdbkkpomhjaaX
open Go.RowKit
set_option linter.unusedVariables false
set_option linter.unusedSimpArgs false
set_option maxRecDepth 100000
theorem take_ext {xs ys : List Int} {i : Nat} (h : xs.take i = ys.take i) (hi : i < xs.length) (hj : i < ys.length) (he : xs.getD i 0 = ys.getD i 0) : xs.take (i + 1) = ys.take (i + 1) := by
  rw [List.take_succ_eq_append_getElem hi, List.take_succ_eq_append_getElem hj, h]
  simp [hi, hj] at he
  rw [he]

/-- leat/leatref12.Same -/
noncomputable def B52 : Code := bodyOf Try.f52
set_option maxHeartbeats 1000000 in
theorem Same_ok (k1 k2 : Int) (A B : Option Addr) (ca cb : Nat) (xs ys : List Int) (s1 s2 : ByteArray) (G : Mem) (hx : rowAt (D.int .u32) G A xs) (hy : rowAt (D.int .u32) G B ys) (hxc : xs.length ≤ ca) (hyc : ys.length ≤ cb) (hxm : ca ≤ maxLen) (hym : cb ≤ maxLen) : CallsG Try.prog 52 [.agg #[.int .i64 k1, .slice A xs.length ca, .string s1], .agg #[.int .i64 k2, .slice B ys.length cb, .string s2]] G (fun _ v rows => v = .bool (decide (k1 = k2 ∧ s1 = s2 ∧ xs = ys)) ∧ rows = []) := by
  simp only [maxLen] at hxm hym
  refine CallsG.enter Try.func52 rfl rfl ?_
  intro w
  refine X.run 16 [2, 3, 4, 11] [2, 3] (.ops (aA B52 [1, 0, 0]) (oA B52 [1, 0, 0] 6 :: lA B52 [1, 0, 0] 7)) [.seq (cA B52 [1, 0, 1]), .seq (cA B52 [1, 1])] ⟨45, [(2, .own 2 0), (3, .own 3 0), (4, .v (.bool false)), (11, .v (.bool (k1 != k2)))], [(2, ⟨65, [.v (.int .i64 k1), .v (.slice A xs.length ca), .v (.string s1)]⟩), (3, ⟨65, [.v (.int .i64 k2), .v (.slice B ys.length cb), .v (.string s2)]⟩)]⟩ (by kernel_rfl) ?_
  refine X.split 11 rfl (fun h1 => ?_) (fun h1 => ?_)
  · -- slot 11: k1 != k2 is True
    replace h1 : k1 ≠ k2 := by simpa using h1
    refine X.run 25 [4] [] (.ex .ret) [] ⟨45, [(4, .v (.bool false))], []⟩ (by kernel_rfl) ?_
    refine doneG (.inl rfl) [.bool false] [] (by kernel_rfl) rfl rfl (Ge.refl _ _) ?_
    -- end 1 (T)
    exact ⟨congrArg Value.bool (by rw [eq_comm, decide_eq_false_iff_not]; rintro ⟨e1_, e2_, e3_⟩; subst e3_; first | contradiction | (simp_all; done) | omega), rfl⟩
  · -- slot 11: k1 != k2 is False
    replace h1 : k1 = k2 := by simpa using h1
    refine X.run 7 [2, 3, 4, 18] [2, 3] (.ops (aA B52 [1, 0, 0]) (oA B52 [1, 0, 0] 13 :: lA B52 [1, 0, 0] 14)) [.seq (cA B52 [1, 0, 1]), .seq (cA B52 [1, 1])] ⟨45, [(2, .own 2 0), (3, .own 3 0), (4, .v (.bool false)), (18, .v (.bool (!(s1.toList == s2.toList))))], [(2, ⟨65, [.v (.int .i64 k1), .v (.slice A xs.length ca), .v (.string s1)]⟩), (3, ⟨65, [.v (.int .i64 k2), .v (.slice B ys.length cb), .v (.string s2)]⟩)]⟩ (by kernel_rfl) ?_
    refine X.split 18 rfl (fun h2 => ?_) (fun h2 => ?_)
    · -- slot 18: !(s1.toList == s2.toList) is True
      replace h2 : (s1.toList == s2.toList) = false := by simpa using h2
      replace h2 : s1 ≠ s2 := strF h2
      refine X.run 18 [4] [] (.ex .ret) [] ⟨45, [(4, .v (.bool false))], []⟩ (by kernel_rfl) ?_
      refine doneG (.inl rfl) [.bool false] [] (by kernel_rfl) rfl rfl (Ge.refl _ _) ?_
      -- end 2 (FT)
      exact ⟨congrArg Value.bool (by rw [eq_comm, decide_eq_false_iff_not]; rintro ⟨e1_, e2_, e3_⟩; subst e3_; first | contradiction | (simp_all; done) | omega), rfl⟩
    · -- slot 18: !(s1.toList == s2.toList) is False
      replace h2 : (s1.toList == s2.toList) = true := by simpa using h2
      replace h2 : s1 = s2 := strT h2
      refine X.run 10 [2, 3, 4, 26] [2, 3] (.code (cA B52 [1, 0, 1])) [.seq (cA B52 [1, 1])] ⟨45, [(2, .own 2 0), (3, .own 3 0), (4, .v (.bool false)), (26, .v (.bool (((xs.length : Nat) : Int) != ((ys.length : Nat) : Int))))], [(2, ⟨65, [.v (.int .i64 k1), .v (.slice A xs.length ca), .v (.string s1)]⟩), (3, ⟨65, [.v (.int .i64 k2), .v (.slice B ys.length cb), .v (.string s2)]⟩)]⟩ (by kernel_rfl) ?_
      refine X.split 26 rfl (fun h3 => ?_) (fun h3 => ?_)
      · -- slot 26: ((xs.length : Nat) : Int) != ((ys.length : Nat) : Int) is True
        replace h3 : ((xs.length : Nat) : Int) ≠ ((ys.length : Nat) : Int) := by simpa using h3
        refine X.run 8 [4] [] (.ex .ret) [] ⟨45, [(4, .v (.bool false))], []⟩ (by kernel_rfl) ?_
        refine doneG (.inl rfl) [.bool false] [] (by kernel_rfl) rfl rfl (Ge.refl _ _) ?_
        -- end 3 (FFT)
        exact ⟨congrArg Value.bool (by rw [eq_comm, decide_eq_false_iff_not]; rintro ⟨e1_, e2_, e3_⟩; subst e3_; first | contradiction | (simp_all; done) | omega), rfl⟩
      · -- slot 26: ((xs.length : Nat) : Int) != ((ys.length : Nat) : Int) is False
        replace h3 : ((xs.length : Nat) : Int) = ((ys.length : Nat) : Int) := by simpa using h3
        refine X.run 10 [2, 3, 4, 5] [2, 3] (.code (cA B52 [1, 1, 0, 1, 0])) [.blk 0, .seq (cA B52 [1, 1, 1])] ⟨45, [(2, .own 2 0), (3, .own 3 0), (4, .v (.bool false)), (5, .v (.int .i64 0))], [(2, ⟨65, [.v (.int .i64 k1), .v (.slice A xs.length ca), .v (.string s1)]⟩), (3, ⟨65, [.v (.int .i64 k2), .v (.slice B ys.length cb), .v (.string s2)]⟩)]⟩ (by kernel_rfl) ?_
        refine X.run 0 [2, 3, 5] [2, 3] (.code (cA B52 [1, 1, 0, 1, 0])) [.blk 0, .seq (cA B52 [1, 1, 1])] ⟨45, [(2, .own 2 0), (3, .own 3 0), (5, .v (.int .i64 0))], [(2, ⟨65, [.v (.int .i64 k1), .v (.slice A xs.length ca), .v (.string s1)]⟩), (3, ⟨65, [.v (.int .i64 k2), .v (.slice B ys.length cb), .v (.string s2)]⟩)]⟩ (by kernel_rfl) ?_
        refine X.loopJ (fun m s R' G' => ∃ (i : Int), s = ⟨45, [(2, .own 2 0), (3, .own 3 0), (5, .v (.int .i64 i))], [(2, ⟨65, [.v (.int .i64 k1), .v (.slice A xs.length ca), .v (.string s1)]⟩), (3, ⟨65, [.v (.int .i64 k2), .v (.slice B ys.length cb), .v (.string s2)]⟩)]⟩ ∧ R' = [] ∧ G = G' ∧ (0 ≤ i ∧ i ≤ (xs.length : Int) ∧ xs.take i.toNat = ys.take i.toNat) ∧ m = ((xs.length : Int) - i).toNat) _ ⟨0, rfl, rfl, rfl, ⟨by omega, by omega, rfl⟩, rfl⟩ ?_
        rintro m4 s4 R4 G4 ⟨i, rfl, rfl, rfl, hF4, rfl⟩ J4 hJ4
        have hS := hF4
        obtain ⟨hi0, hi1, hi2⟩ := hF4
        refine X.run 10 [2, 3, 5, 31] [2, 3] (.code (cA B52 [1, 1, 0, 1, 0, 0, 0, 1])) [.seq (cA B52 [1, 1, 0, 1, 0, 0, 1]), .loop J4, .blk 0, .seq (cA B52 [1, 1, 1])] ⟨45, [(2, .own 2 0), (3, .own 3 0), (5, .v (.int .i64 i)), (31, .v (.bool (decide (i < ((xs.length : Nat) : Int)))))], [(2, ⟨65, [.v (.int .i64 k1), .v (.slice A xs.length ca), .v (.string s1)]⟩), (3, ⟨65, [.v (.int .i64 k2), .v (.slice B ys.length cb), .v (.string s2)]⟩)]⟩ (by kernel_rfl) ?_
        refine X.split 31 rfl (fun h5 => ?_) (fun h5 => ?_)
        · -- slot 31: decide (i < ((xs.length : Nat) : Int)) is True
          replace h5 : i < ((xs.length : Nat) : Int) := of_decide_eq_true h5
          refine X.run 6 [2, 3, 5] [2, 3] (.code (cA B52 [1, 1, 0, 1, 0, 0, 1, 0, 0, 0])) [.seq (cA B52 [1, 1, 0, 1, 0, 0, 1, 0, 0, 1]), .blk 1, .seq (cA B52 [1, 1, 0, 1, 0, 0, 1, 1]), .loop J4, .blk 0, .seq (cA B52 [1, 1, 1])] ⟨45, [(2, .own 2 0), (3, .own 3 0), (5, .v (.int .i64 i))], [(2, ⟨65, [.v (.int .i64 k1), .v (.slice A xs.length ca), .v (.string s1)]⟩), (3, ⟨65, [.v (.int .i64 k2), .v (.slice B ys.length cb), .v (.string s2)]⟩)]⟩ (by kernel_rfl) ?_
          have hx_d6 := hx
          have hy_d6 := hy
          refine XD.open (id := 6) (arr := aA B52 [1, 1, 0, 1, 0, 0, 1, 0, 0, 0]) 11 [⟨some 2, 2, 65, [.v (.int .i64 k1), .v (.slice A xs.length ca), .v (.string s1)]⟩, ⟨some 3, 3, 65, [.v (.int .i64 k2), .v (.slice B ys.length cb), .v (.string s2)]⟩] [] [] (by kernel_rfl) (by kernel_rfl) (by kernel_rfl) (by kernel_rfl) (by kernel_rfl) ⟨⟨fun _ h => (by cases h; rfl), rfl⟩, ⟨fun _ h => (by cases h; rfl), rfl⟩, trivial⟩ (by intro p hp hn; simp only [List.mem_cons, List.not_mem_nil, or_false] at hp; rcases hp with rfl | rfl <;> first | (cases hn; done) | exact absurd _ (Nat.le_of_ble_eq_true rfl)) rfl (fun ρ0 => ?_)
          refine XD.take (i := 0) (l' := (lb 11 1)) (oA B52 [1, 1, 0, 1, 0, 0, 1, 0, 0, 0] 0) (.own 2 1) QOk.ctxG (by kernel_rfl) (by kernel_rfl) (by kernel_rfl) (by kernel_rfl) (by kernel_rfl) ?_
          refine XD.take (i := 1) (l' := (lb 11 3)) (oA B52 [1, 1, 0, 1, 0, 0, 1, 0, 0, 0] 1) (.v (.slice A xs.length ca)) QOk.ctxG (by kernel_rfl) (by kernel_rfl) (by kernel_rfl) (by kernel_rfl) (by kernel_rfl) ?_
          refine XD.take (i := 2) (l' := (lb 11 7)) (oA B52 [1, 1, 0, 1, 0, 0, 1, 0, 0, 0] 2) (.v (.int .i64 i)) QOk.ctxG (by kernel_rfl) (by kernel_rfl) (by kernel_rfl) (by kernel_rfl) (by kernel_rfl) ?_
          have b7 : (0 : Int) ≤ i := by omega
          have b8 : i < ((xs.length : Nat) : Int) := by omega
          obtain ⟨at9, lo9, hi9⟩ := At.int [] hx_d6 ((i).toNat) (by omega)
          simp only [IntKind.lo, IntKind.hi] at lo9 hi9
          refine XD.index (i := 3) (l' := (lb 11 15)) (o := (oA B52 [1, 1, 0, 1, 0, 0, 1, 0, 0, 0] 3)) (t := 63) (e := 29) (sz := 1) (A := A) (n := xs.length) (c := ca) (ki := .i64) (j := i) (x := .tmp 35) (ix := .tmp 36) QOk.ctxG (by kernel_rfl) (by kernel_rfl) (by kernel_rfl) (by kernel_rfl) (by kernel_rfl) (by kernel_rfl) (by kernel_rfl) (by kernel_rfl) b7 b8 (fun _ _ => rowAt.so hx_d6 (by omega)) (by kernel_rfl) ?_
          refine XD.load (i := 4) (l' := (lb 11 31)) (o := (oA B52 [1, 1, 0, 1, 0, 0, 1, 0, 0, 0] 4)) (t := 29) (A := A) (j := (i).toNat * 1) (x := .tmp 37) (z := .int .u32 (xs.getD ((i).toNat) 0)) [.int .u32 (xs.getD ((i).toNat) 0)] QOk.ctxG (by kernel_rfl) (by kernel_rfl) (by kernel_rfl) (by kernel_rfl) (by kernel_rfl) at9 (by kernel_rfl) (by kernel_rfl) ?_
          refine XD.take (i := 5) (l' := (lb 11 63)) (oA B52 [1, 1, 0, 1, 0, 0, 1, 0, 0, 0] 5) (.own 3 1) QOk.ctxG (by kernel_rfl) (by kernel_rfl) (by kernel_rfl) (by kernel_rfl) (by kernel_rfl) ?_
          refine XD.take (i := 6) (l' := (lb 11 127)) (oA B52 [1, 1, 0, 1, 0, 0, 1, 0, 0, 0] 6) (.v (.slice B ys.length cb)) QOk.ctxG (by kernel_rfl) (by kernel_rfl) (by kernel_rfl) (by kernel_rfl) (by kernel_rfl) ?_
          refine XD.take (i := 7) (l' := (lb 11 255)) (oA B52 [1, 1, 0, 1, 0, 0, 1, 0, 0, 0] 7) (.v (.int .i64 i)) QOk.ctxG (by kernel_rfl) (by kernel_rfl) (by kernel_rfl) (by kernel_rfl) (by kernel_rfl) ?_
          have b10 : (0 : Int) ≤ i := by omega
          have b11 : i < ((ys.length : Nat) : Int) := by omega
          obtain ⟨at12, lo12, hi12⟩ := At.int [] hy_d6 ((i).toNat) (by omega)
          simp only [IntKind.lo, IntKind.hi] at lo12 hi12
          refine XD.index (i := 8) (l' := (lb 11 511)) (o := (oA B52 [1, 1, 0, 1, 0, 0, 1, 0, 0, 0] 8)) (t := 63) (e := 29) (sz := 1) (A := B) (n := ys.length) (c := cb) (ki := .i64) (j := i) (x := .tmp 40) (ix := .tmp 41) QOk.ctxG (by kernel_rfl) (by kernel_rfl) (by kernel_rfl) (by kernel_rfl) (by kernel_rfl) (by kernel_rfl) (by kernel_rfl) (by kernel_rfl) b10 b11 (fun _ _ => rowAt.so hy_d6 (by omega)) (by kernel_rfl) ?_
          refine XD.load (i := 9) (l' := (lb 11 1023)) (o := (oA B52 [1, 1, 0, 1, 0, 0, 1, 0, 0, 0] 9)) (t := 29) (A := B) (j := (i).toNat * 1) (x := .tmp 42) (z := .int .u32 (ys.getD ((i).toNat) 0)) [.int .u32 (ys.getD ((i).toNat) 0)] QOk.ctxG (by kernel_rfl) (by kernel_rfl) (by kernel_rfl) (by kernel_rfl) (by kernel_rfl) at12 (by kernel_rfl) (by kernel_rfl) ?_
          refine XD.take (i := 10) (l' := (lb 11 2047)) (oA B52 [1, 1, 0, 1, 0, 0, 1, 0, 0, 0] 10) (.v (.bool ((xs.getD ((i).toNat) 0) != (ys.getD ((i).toNat) 0)))) QOk.ctxG (by kernel_rfl) (by kernel_rfl) (by kernel_rfl) (by kernel_rfl) (by kernel_rfl) ?_
          refine XD.done (by kernel_rfl) ?_
          refine X.run 1 [2, 3, 5, 44] [2, 3] (.code (cA B52 [1, 1, 0, 1, 0, 0, 1, 0, 0, 1])) [.blk 1, .seq (cA B52 [1, 1, 0, 1, 0, 0, 1, 1]), .loop J4, .blk 0, .seq (cA B52 [1, 1, 1])] ⟨45, [(2, .own 2 0), (3, .own 3 0), (5, .v (.int .i64 i)), (44, .v (.bool ((xs.getD ((i).toNat) 0) != (ys.getD ((i).toNat) 0))))], [(2, ⟨65, [.v (.int .i64 k1), .v (.slice A xs.length ca), .v (.string s1)]⟩), (3, ⟨65, [.v (.int .i64 k2), .v (.slice B ys.length cb), .v (.string s2)]⟩)]⟩ (by kernel_rfl) ?_
          refine X.split 44 rfl (fun h13 => ?_) (fun h13 => ?_)
          · -- slot 44: (xs.getD ((i).toNat) 0) != (ys.getD ((i).toNat) 0) is True
            replace h13 : (xs.getD ((i).toNat) 0) ≠ (ys.getD ((i).toNat) 0) := by simpa using h13
            refine X.run 12 [4] [] (.ex .ret) [] ⟨45, [(4, .v (.bool false))], []⟩ (by kernel_rfl) ?_
            refine doneG (.inl rfl) [.bool false] [] (by kernel_rfl) rfl rfl (Ge.refl _ _) ?_
            -- end 4 (FFFTT)
            exact ⟨congrArg Value.bool (by rw [eq_comm, decide_eq_false_iff_not]; rintro ⟨e1_, e2_, e3_⟩; subst e3_; first | contradiction | (simp_all; done) | omega), rfl⟩
          · -- slot 44: (xs.getD ((i).toNat) 0) != (ys.getD ((i).toNat) 0) is False
            replace h13 : (xs.getD ((i).toNat) 0) = (ys.getD ((i).toNat) 0) := by simpa using h13
            refine X.run 9 [2, 3, 5] [2, 3] (.ex .normal) [.loop J4, .blk 0, .seq (cA B52 [1, 1, 1])] ⟨45, [(2, .own 2 0), (3, .own 3 0), (5, .v (.int .i64 (IntKind.i64.wrap (i + 1))))], [(2, ⟨65, [.v (.int .i64 k1), .v (.slice A xs.length ca), .v (.string s1)]⟩), (3, ⟨65, [.v (.int .i64 k2), .v (.slice B ys.length cb), .v (.string s2)]⟩)]⟩ (by kernel_rfl) ?_
            -- again (FFFTF)
            have e1 : IntKind.i64.wrap (i + 1) = i + 1 := wi64 (by omega) (by omega)
            have e0 : (i + 1).toNat = i.toNat + 1 := by omega
            exact X.again (hJ4 _ _ _ _ ⟨IntKind.i64.wrap (i + 1), rfl, rfl, rfl, ⟨by omega, by omega, by rw [e1, e0]; exact take_ext hi2 (by omega) (by omega) (by assumption)⟩, rfl⟩ (by rw [e1]; omega))
        · -- slot 31: decide (i < ((xs.length : Nat) : Int)) is False
          replace h5 : ¬ (i < ((xs.length : Nat) : Int)) := of_decide_eq_false h5
          refine X.run 12 [4] [] (.ex .ret) [] ⟨45, [(4, .v (.bool true))], []⟩ (by kernel_rfl) ?_
          refine doneG (.inl rfl) [.bool true] [] (by kernel_rfl) rfl rfl (Ge.refl _ _) ?_
          -- end 5 (FFFF)
          have hl_ : xs.length = ys.length := by omega
          have h1_ := hi2
          rw [List.take_of_length_le (by omega), List.take_of_length_le (by omega)] at h1_
          exact ⟨congrArg Value.bool (by rw [eq_comm, decide_eq_true_iff]; exact ⟨by assumption, by assumption, h1_⟩), rfl⟩

def cn (xs : List Int) (i : Int) (j : Nat) : Int := if (j : Int) < i ∧ j < xs.length then xs.getD j 0 else -1
def ct (k : Int) (xs : List Int) (j : Nat) : Int := if k = 172 then cn xs xs.length j else if k = 174 then cn xs xs.length (2 - j) else -1
theorem cn_step {xs : List Int} {i : Int} {j : Nat} (h0 : 0 ≤ i) (h : i ≠ (j : Int)) : cn xs (i + 1) j = cn xs i j := by
  unfold cn
  by_cases h1 : (j : Int) < i ∧ j < xs.length
  · rw [if_pos h1, if_pos ⟨by omega, h1.2⟩]
  · rw [if_neg h1, if_neg (by omega)]
theorem cn_now {xs : List Int} {i : Int} {j : Nat} (h : i = (j : Int)) (hl : j < xs.length) : cn xs (i + 1) j = xs.getD j 0 := by
  unfold cn
  rw [if_pos ⟨by omega, hl⟩]
theorem cn_none {xs : List Int} {j : Nat} : cn xs 0 j = -1 := by
  unfold cn
  rw [if_neg (by omega)]

/-- leat/option.Counters -/
noncomputable def B54 : Code := bodyOf Try.f54
set_option maxHeartbeats 1000000 in
theorem Counters_ok (k1 : Int) (A : Option Addr) (ca : Nat) (xs : List Int) (s1 : ByteArray) (G : Mem) (hx : rowAt (D.int .u32) G A xs) (hxc : xs.length ≤ ca) (hxm : ca ≤ maxLen) : CallsG Try.prog 54 [.agg #[.int .i64 k1, .slice A xs.length ca, .string s1]] G (fun _ v rows => v = .agg #[.int .i64 (ct k1 xs 0), .int .i64 (ct k1 xs 1), .int .i64 (ct k1 xs 2)] ∧ rows = []) := by
  simp only [maxLen] at hxm
  refine CallsG.enter Try.func54 rfl rfl ?_
  intro w
  refine X.run 20 [1, 2, 3, 10] [1, 2, 3] (.ops (aA B54 [1, 1, 0, 0]) (oA B54 [1, 1, 0, 0] 4 :: lA B54 [1, 1, 0, 0] 5)) [.seq (cA B54 [1, 1, 0, 1]), .seq (cA B54 [1, 1, 1])] ⟨41, [(1, .own 1 0), (2, .own 2 0), (3, .own 3 0), (10, .v (.bool (k1 != 172)))], [(1, ⟨65, [.v (.int .i64 k1), .v (.slice A xs.length ca), .v (.string s1)]⟩), (2, ⟨70, [.v (.int .i64 0), .v (.int .i64 0), .v (.int .i64 0)]⟩), (3, ⟨70, [.v (.int .i64 (-1)), .v (.int .i64 (-1)), .v (.int .i64 (-1))]⟩)]⟩ (by kernel_rfl) ?_
  refine X.split 10 rfl (fun h1 => ?_) (fun h1 => ?_)
  · -- slot 10: k1 != 172 is True
    replace h1 : k1 ≠ 172 := by simpa using h1
    refine X.run 6 [1, 2, 3, 14] [1, 2, 3] (.code (cA B54 [1, 1, 0, 1])) [.seq (cA B54 [1, 1, 1])] ⟨41, [(1, .own 1 0), (2, .own 2 0), (3, .own 3 0), (14, .v (.bool (k1 != 174)))], [(1, ⟨65, [.v (.int .i64 k1), .v (.slice A xs.length ca), .v (.string s1)]⟩), (2, ⟨70, [.v (.int .i64 0), .v (.int .i64 0), .v (.int .i64 0)]⟩), (3, ⟨70, [.v (.int .i64 (-1)), .v (.int .i64 (-1)), .v (.int .i64 (-1))]⟩)]⟩ (by kernel_rfl) ?_
    refine X.split 14 rfl (fun h2 => ?_) (fun h2 => ?_)
    · -- slot 14: k1 != 174 is True
      replace h2 : k1 ≠ 174 := by simpa using h2
      refine X.run 9 [2] [2] (.ex .ret) [] ⟨41, [(2, .own 2 0)], [(2, ⟨70, [.v (.int .i64 (-1)), .v (.int .i64 (-1)), .v (.int .i64 (-1))]⟩)]⟩ (by kernel_rfl) ?_
      refine doneG (.inl rfl) [.agg #[.int .i64 (-1), .int .i64 (-1), .int .i64 (-1)]] [] (by kernel_rfl) rfl rfl (Ge.refl _ _) ?_
      -- end 1 (TT)
      exact ⟨by unfold ct; rw [if_neg (by assumption), if_neg (by assumption), if_neg (by assumption), if_neg (by assumption), if_neg (by assumption), if_neg (by assumption)]; rfl, rfl⟩
    · -- slot 14: k1 != 174 is False
      replace h2 : k1 = 174 := by simpa using h2
      refine X.run 13 [1, 2, 3, 17, 18, 19] [1, 2, 3] (.code (cA B54 [1, 1, 1, 0, 1, 0])) [.blk 0, .seq (cA B54 [1, 1, 1, 1])] ⟨41, [(1, .own 1 0), (2, .own 2 0), (3, .own 3 0), (17, .v (.slice A xs.length ca)), (18, .v (.int .i64 ((xs.length : Nat) : Int))), (19, .v (.int .i64 0))], [(1, ⟨65, [.v (.int .i64 k1), .v (.slice A xs.length ca), .v (.string s1)]⟩), (2, ⟨70, [.v (.int .i64 0), .v (.int .i64 0), .v (.int .i64 0)]⟩), (3, ⟨70, [.v (.int .i64 (-1)), .v (.int .i64 (-1)), .v (.int .i64 (-1))]⟩)]⟩ (by kernel_rfl) ?_
      refine X.loopJ (fun m s R' G' => ∃ (i e_ f_ g_ : Int), s = ⟨41, [(1, .own 1 0), (2, .own 2 0), (3, .own 3 0), (17, .v (.slice A xs.length ca)), (18, .v (.int .i64 ((xs.length : Nat) : Int))), (19, .v (.int .i64 i))], [(1, ⟨65, [.v (.int .i64 k1), .v (.slice A xs.length ca), .v (.string s1)]⟩), (2, ⟨70, [.v (.int .i64 0), .v (.int .i64 0), .v (.int .i64 0)]⟩), (3, ⟨70, [.v (.int .i64 e_), .v (.int .i64 f_), .v (.int .i64 g_)]⟩)]⟩ ∧ R' = [] ∧ G = G' ∧ (0 ≤ i ∧ i ≤ (xs.length : Int) ∧ e_ = cn xs i 0 ∧ f_ = cn xs i 1 ∧ g_ = cn xs i 2) ∧ m = ((xs.length : Int) - i).toNat) _ ⟨0, (-1), (-1), (-1), rfl, rfl, rfl, ⟨by omega, by omega, cn_none.symm, cn_none.symm, cn_none.symm⟩, rfl⟩ ?_
      rintro m3 s3 R3 G3 ⟨i, e_, f_, g_, rfl, rfl, rfl, hF3, rfl⟩ J3 hJ3
      obtain ⟨hi0, hi1, he_, hf_, hg_⟩ := hF3
      refine X.run 6 [1, 2, 3, 17, 18, 19, 20] [1, 2, 3] (.code (cA B54 [1, 1, 1, 0, 1, 0, 0, 1, 0])) [.seq (cA B54 [1, 1, 1, 0, 1, 0, 0, 1, 1]), .loop J3, .blk 0, .seq (cA B54 [1, 1, 1, 1])] ⟨41, [(1, .own 1 0), (2, .own 2 0), (3, .own 3 0), (17, .v (.slice A xs.length ca)), (18, .v (.int .i64 ((xs.length : Nat) : Int))), (19, .v (.int .i64 i)), (20, .v (.bool (decide (i < ((xs.length : Nat) : Int)))))], [(1, ⟨65, [.v (.int .i64 k1), .v (.slice A xs.length ca), .v (.string s1)]⟩), (2, ⟨70, [.v (.int .i64 0), .v (.int .i64 0), .v (.int .i64 0)]⟩), (3, ⟨70, [.v (.int .i64 e_), .v (.int .i64 f_), .v (.int .i64 g_)]⟩)]⟩ (by kernel_rfl) ?_
      refine X.split 20 rfl (fun h4 => ?_) (fun h4 => ?_)
      · -- slot 20: decide (i < ((xs.length : Nat) : Int)) is True
        replace h4 : i < ((xs.length : Nat) : Int) := of_decide_eq_true h4
        refine X.run 8 [1, 2, 3, 17, 18, 19, 21] [1, 2, 3] (.ops (aA B54 [1, 1, 1, 0, 1, 0, 0, 1, 1, 0, 0, 0]) (oA B54 [1, 1, 1, 0, 1, 0, 0, 1, 1, 0, 0, 0] 1 :: lA B54 [1, 1, 1, 0, 1, 0, 0, 1, 1, 0, 0, 0] 2)) [.seq (cA B54 [1, 1, 1, 0, 1, 0, 0, 1, 1, 0, 0, 1]), .blk 1, .seq (cA B54 [1, 1, 1, 0, 1, 0, 0, 1, 1, 1]), .loop J3, .blk 0, .seq (cA B54 [1, 1, 1, 1])] ⟨41, [(1, .own 1 0), (2, .own 2 0), (3, .own 3 0), (17, .v (.slice A xs.length ca)), (18, .v (.int .i64 ((xs.length : Nat) : Int))), (19, .v (.int .i64 i)), (21, .v (.int .i64 i))], [(1, ⟨65, [.v (.int .i64 k1), .v (.slice A xs.length ca), .v (.string s1)]⟩), (2, ⟨70, [.v (.int .i64 0), .v (.int .i64 0), .v (.int .i64 0)]⟩), (3, ⟨70, [.v (.int .i64 e_), .v (.int .i64 f_), .v (.int .i64 g_)]⟩)]⟩ (by kernel_rfl) ?_
        have b5 : (0 : Int) ≤ i := by omega
        have b6 : i < ((xs.length : Nat) : Int) := by omega
        refine X.index (t := 63) (e := 29) (sz := 1) (A := A) (n := xs.length) (c := ca) (ki := .i64) (i := i) (x := .tmp 17) (ix := .tmp 19) (by kernel_rfl) (by kernel_rfl) (by kernel_rfl) (by kernel_rfl) (by kernel_rfl) (by kernel_rfl) b5 b6 (fun _ _ => rowAt.so hx (by omega)) ?_
        obtain ⟨at7, lo7, hi7⟩ := At.int [] hx ((i).toNat) (by omega)
        simp only [IntKind.lo, IntKind.hi] at lo7 hi7
        refine X.load (t := 29) (A := A) (j := (i).toNat * 1) (x := .tmp 22) (z := .int .u32 (xs.getD ((i).toNat) 0)) [.int .u32 (xs.getD ((i).toNat) 0)] (by kernel_rfl) (by kernel_rfl) at7 (by kernel_rfl) (by kernel_rfl) ?_
        refine X.run 10 [1, 2, 3, 4, 5, 17, 18, 19, 25] [1, 2, 3] (.code (cA B54 [1, 1, 1, 0, 1, 0, 0, 1, 1, 0, 0, 1, 1])) [.blk 1, .seq (cA B54 [1, 1, 1, 0, 1, 0, 0, 1, 1, 1]), .loop J3, .blk 0, .seq (cA B54 [1, 1, 1, 1])] ⟨41, [(1, .own 1 0), (2, .own 2 0), (3, .own 3 0), (4, .v (.int .i64 i)), (5, .v (.int .u32 (xs.getD ((i).toNat) 0))), (17, .v (.slice A xs.length ca)), (18, .v (.int .i64 ((xs.length : Nat) : Int))), (19, .v (.int .i64 i)), (25, .v (.bool (decide (i < 3))))], [(1, ⟨65, [.v (.int .i64 k1), .v (.slice A xs.length ca), .v (.string s1)]⟩), (2, ⟨70, [.v (.int .i64 0), .v (.int .i64 0), .v (.int .i64 0)]⟩), (3, ⟨70, [.v (.int .i64 e_), .v (.int .i64 f_), .v (.int .i64 g_)]⟩)]⟩ (by kernel_rfl) ?_
        refine X.split 25 rfl (fun h8 => ?_) (fun h8 => ?_)
        · -- slot 25: decide (i < 3) is True
          replace h8 : i < 3 := of_decide_eq_true h8
          refine X.run 5 [1, 2, 3, 17, 18, 19, 26, 28] [1, 2, 3] (.ops (aA B54 [1, 1, 1, 0, 1, 0, 0, 1, 1, 0, 0, 1, 1, 0]) (oA B54 [1, 1, 1, 0, 1, 0, 0, 1, 1, 0, 0, 1, 1, 0] 3 :: lA B54 [1, 1, 1, 0, 1, 0, 0, 1, 1, 0, 0, 1, 1, 0] 4)) [.blk 1, .seq (cA B54 [1, 1, 1, 0, 1, 0, 0, 1, 1, 1]), .loop J3, .blk 0, .seq (cA B54 [1, 1, 1, 1])] ⟨41, [(1, .own 1 0), (2, .own 2 0), (3, .own 3 0), (17, .v (.slice A xs.length ca)), (18, .v (.int .i64 ((xs.length : Nat) : Int))), (19, .v (.int .i64 i)), (26, .v (.int .i64 i)), (28, .v (.int .i64 (IntKind.i64.wrap (xs.getD ((i).toNat) 0))))], [(1, ⟨65, [.v (.int .i64 k1), .v (.slice A xs.length ca), .v (.string s1)]⟩), (2, ⟨70, [.v (.int .i64 0), .v (.int .i64 0), .v (.int .i64 0)]⟩), (3, ⟨70, [.v (.int .i64 e_), .v (.int .i64 f_), .v (.int .i64 g_)]⟩)]⟩ (by kernel_rfl) ?_
          have hcs9 : i = 0 ∨ i = 1 ∨ i = 2 := by omega
          rcases hcs9 with rfl | rfl | rfl
          · -- i is 0
            refine X.run 9 [1, 2, 3, 17, 18, 19] [1, 2, 3] (.ex .normal) [.loop J3, .blk 0, .seq (cA B54 [1, 1, 1, 1])] ⟨41, [(1, .own 1 0), (2, .own 2 0), (3, .own 3 0), (17, .v (.slice A xs.length ca)), (18, .v (.int .i64 ((xs.length : Nat) : Int))), (19, .v (.int .i64 1))], [(1, ⟨65, [.v (.int .i64 k1), .v (.slice A xs.length ca), .v (.string s1)]⟩), (2, ⟨70, [.v (.int .i64 0), .v (.int .i64 0), .v (.int .i64 0)]⟩), (3, ⟨70, [.v (.int .i64 (IntKind.i64.wrap (xs.getD (((0 : Int)).toNat) 0))), .v (.int .i64 f_), .v (.int .i64 g_)]⟩)]⟩ (by kernel_rfl) ?_
            -- again (TFTT=0)
            exact X.again (hJ3 _ _ _ _ ⟨1, IntKind.i64.wrap (xs.getD (((0 : Int)).toNat) 0), f_, g_, rfl, rfl, rfl, ⟨by omega, by omega, by rw [show (1 : Int) = 0 + 1 from rfl, cn_now (i := 0) (j := 0) rfl (by omega)]; exact wi64 (by omega) (by omega), by rw [show (1 : Int) = 0 + 1 from rfl, cn_step (by omega) (by omega)]; assumption, by rw [show (1 : Int) = 0 + 1 from rfl, cn_step (by omega) (by omega)]; assumption⟩, rfl⟩ (by omega))
          · -- i is 1
            refine X.run 9 [1, 2, 3, 17, 18, 19] [1, 2, 3] (.ex .normal) [.loop J3, .blk 0, .seq (cA B54 [1, 1, 1, 1])] ⟨41, [(1, .own 1 0), (2, .own 2 0), (3, .own 3 0), (17, .v (.slice A xs.length ca)), (18, .v (.int .i64 ((xs.length : Nat) : Int))), (19, .v (.int .i64 2))], [(1, ⟨65, [.v (.int .i64 k1), .v (.slice A xs.length ca), .v (.string s1)]⟩), (2, ⟨70, [.v (.int .i64 0), .v (.int .i64 0), .v (.int .i64 0)]⟩), (3, ⟨70, [.v (.int .i64 e_), .v (.int .i64 (IntKind.i64.wrap (xs.getD (((1 : Int)).toNat) 0))), .v (.int .i64 g_)]⟩)]⟩ (by kernel_rfl) ?_
            -- again (TFTT=1)
            exact X.again (hJ3 _ _ _ _ ⟨2, e_, IntKind.i64.wrap (xs.getD (((1 : Int)).toNat) 0), g_, rfl, rfl, rfl, ⟨by omega, by omega, by rw [show (2 : Int) = 1 + 1 from rfl, cn_step (by omega) (by omega)]; assumption, by rw [show (2 : Int) = 1 + 1 from rfl, cn_now (i := 1) (j := 1) rfl (by omega)]; exact wi64 (by omega) (by omega), by rw [show (2 : Int) = 1 + 1 from rfl, cn_step (by omega) (by omega)]; assumption⟩, rfl⟩ (by omega))
          · -- i is 2
            refine X.run 9 [1, 2, 3, 17, 18, 19] [1, 2, 3] (.ex .normal) [.loop J3, .blk 0, .seq (cA B54 [1, 1, 1, 1])] ⟨41, [(1, .own 1 0), (2, .own 2 0), (3, .own 3 0), (17, .v (.slice A xs.length ca)), (18, .v (.int .i64 ((xs.length : Nat) : Int))), (19, .v (.int .i64 3))], [(1, ⟨65, [.v (.int .i64 k1), .v (.slice A xs.length ca), .v (.string s1)]⟩), (2, ⟨70, [.v (.int .i64 0), .v (.int .i64 0), .v (.int .i64 0)]⟩), (3, ⟨70, [.v (.int .i64 e_), .v (.int .i64 f_), .v (.int .i64 (IntKind.i64.wrap (xs.getD (((2 : Int)).toNat) 0)))]⟩)]⟩ (by kernel_rfl) ?_
            -- again (TFTT=2)
            exact X.again (hJ3 _ _ _ _ ⟨3, e_, f_, IntKind.i64.wrap (xs.getD (((2 : Int)).toNat) 0), rfl, rfl, rfl, ⟨by omega, by omega, by rw [show (3 : Int) = 2 + 1 from rfl, cn_step (by omega) (by omega)]; assumption, by rw [show (3 : Int) = 2 + 1 from rfl, cn_step (by omega) (by omega)]; assumption, by rw [show (3 : Int) = 2 + 1 from rfl, cn_now (i := 2) (j := 2) rfl (by omega)]; exact wi64 (by omega) (by omega)⟩, rfl⟩ (by omega))
        · -- slot 25: decide (i < 3) is False
          replace h8 : ¬ (i < 3) := of_decide_eq_false h8
          refine X.run 8 [1, 2, 3, 17, 18, 19] [1, 2, 3] (.ex .normal) [.loop J3, .blk 0, .seq (cA B54 [1, 1, 1, 1])] ⟨41, [(1, .own 1 0), (2, .own 2 0), (3, .own 3 0), (17, .v (.slice A xs.length ca)), (18, .v (.int .i64 ((xs.length : Nat) : Int))), (19, .v (.int .i64 (IntKind.i64.wrap (i + 1))))], [(1, ⟨65, [.v (.int .i64 k1), .v (.slice A xs.length ca), .v (.string s1)]⟩), (2, ⟨70, [.v (.int .i64 0), .v (.int .i64 0), .v (.int .i64 0)]⟩), (3, ⟨70, [.v (.int .i64 e_), .v (.int .i64 f_), .v (.int .i64 g_)]⟩)]⟩ (by kernel_rfl) ?_
          -- again (TFTF)
          have e1 : IntKind.i64.wrap (i + 1) = i + 1 := wi64 (by omega) (by omega)
          exact X.again (hJ3 _ _ _ _ ⟨IntKind.i64.wrap (i + 1), e_, f_, g_, rfl, rfl, rfl, ⟨by omega, by omega, by rw [e1, cn_step (by omega) (by omega)]; assumption, by rw [e1, cn_step (by omega) (by omega)]; assumption, by rw [e1, cn_step (by omega) (by omega)]; assumption⟩, rfl⟩ (by rw [e1]; omega))
      · -- slot 20: decide (i < ((xs.length : Nat) : Int)) is False
        replace h4 : ¬ (i < ((xs.length : Nat) : Int)) := of_decide_eq_false h4
        refine X.run 14 [2, 3, 33] [2, 3] (.code (cA B54 [1, 1, 1, 1, 0, 1])) [.seq (cA B54 [1, 1, 1, 1, 1])] ⟨41, [(2, .own 2 0), (3, .own 3 0), (33, .v (.bool (k1 == 174)))], [(2, ⟨70, [.v (.int .i64 0), .v (.int .i64 0), .v (.int .i64 0)]⟩), (3, ⟨70, [.v (.int .i64 e_), .v (.int .i64 f_), .v (.int .i64 g_)]⟩)]⟩ (by kernel_rfl) ?_
        refine X.split 33 rfl (fun h10 => ?_) (fun h10 => ?_)
        · -- slot 33: k1 == 174 is True
          replace h10 : k1 = 174 := by simpa using h10
          refine X.run 19 [2] [2] (.ex .ret) [] ⟨41, [(2, .own 2 0)], [(2, ⟨70, [.v (.int .i64 g_), .v (.int .i64 f_), .v (.int .i64 e_)]⟩)]⟩ (by kernel_rfl) ?_
          refine doneG (.inl rfl) [.agg #[.int .i64 g_, .int .i64 f_, .int .i64 e_]] [] (by kernel_rfl) rfl rfl (Ge.refl _ _) ?_
          -- end 2 (TFFT)
          have hi_ : i = (xs.length : Int) := by omega
          subst hi_
          subst he_; subst hf_; subst hg_
          exact ⟨by unfold ct; rw [show k1 = 174 by assumption]; rfl, rfl⟩
        · -- slot 33: k1 == 174 is False
          replace h10 : k1 ≠ 174 := by simpa using h10
          refine X.run 10 [2] [2] (.ex .ret) [] ⟨41, [(2, .own 2 0)], [(2, ⟨70, [.v (.int .i64 e_), .v (.int .i64 f_), .v (.int .i64 g_)]⟩)]⟩ (by kernel_rfl) ?_
          refine doneG (.inl rfl) [.agg #[.int .i64 e_, .int .i64 f_, .int .i64 g_]] [] (by kernel_rfl) rfl rfl (Ge.refl _ _) ?_
          -- end 3 (TFFF)
          have hi_ : i = (xs.length : Int) := by omega
          subst hi_
          subst he_; subst hf_; subst hg_
          exact ⟨by unfold ct; rw [if_pos (show k1 = 172 by omega), if_pos (show k1 = 172 by omega), if_pos (show k1 = 172 by omega)]; rfl, rfl⟩
  · -- slot 10: k1 != 172 is False
    replace h1 : k1 = 172 := by simpa using h1
    refine X.run 19 [1, 2, 3, 17, 18, 19] [1, 2, 3] (.code (cA B54 [1, 1, 1, 0, 1, 0])) [.blk 0, .seq (cA B54 [1, 1, 1, 1])] ⟨41, [(1, .own 1 0), (2, .own 2 0), (3, .own 3 0), (17, .v (.slice A xs.length ca)), (18, .v (.int .i64 ((xs.length : Nat) : Int))), (19, .v (.int .i64 0))], [(1, ⟨65, [.v (.int .i64 k1), .v (.slice A xs.length ca), .v (.string s1)]⟩), (2, ⟨70, [.v (.int .i64 0), .v (.int .i64 0), .v (.int .i64 0)]⟩), (3, ⟨70, [.v (.int .i64 (-1)), .v (.int .i64 (-1)), .v (.int .i64 (-1))]⟩)]⟩ (by kernel_rfl) ?_
    refine X.loopJ (fun m s R' G' => ∃ (i e_ f_ g_ : Int), s = ⟨41, [(1, .own 1 0), (2, .own 2 0), (3, .own 3 0), (17, .v (.slice A xs.length ca)), (18, .v (.int .i64 ((xs.length : Nat) : Int))), (19, .v (.int .i64 i))], [(1, ⟨65, [.v (.int .i64 k1), .v (.slice A xs.length ca), .v (.string s1)]⟩), (2, ⟨70, [.v (.int .i64 0), .v (.int .i64 0), .v (.int .i64 0)]⟩), (3, ⟨70, [.v (.int .i64 e_), .v (.int .i64 f_), .v (.int .i64 g_)]⟩)]⟩ ∧ R' = [] ∧ G = G' ∧ (0 ≤ i ∧ i ≤ (xs.length : Int) ∧ e_ = cn xs i 0 ∧ f_ = cn xs i 1 ∧ g_ = cn xs i 2) ∧ m = ((xs.length : Int) - i).toNat) _ ⟨0, (-1), (-1), (-1), rfl, rfl, rfl, ⟨by omega, by omega, cn_none.symm, cn_none.symm, cn_none.symm⟩, rfl⟩ ?_
    rintro m11 s11 R11 G11 ⟨i, e_, f_, g_, rfl, rfl, rfl, hF11, rfl⟩ J11 hJ11
    obtain ⟨hi0, hi1, he_, hf_, hg_⟩ := hF11
    refine X.run 6 [1, 2, 3, 17, 18, 19, 20] [1, 2, 3] (.code (cA B54 [1, 1, 1, 0, 1, 0, 0, 1, 0])) [.seq (cA B54 [1, 1, 1, 0, 1, 0, 0, 1, 1]), .loop J11, .blk 0, .seq (cA B54 [1, 1, 1, 1])] ⟨41, [(1, .own 1 0), (2, .own 2 0), (3, .own 3 0), (17, .v (.slice A xs.length ca)), (18, .v (.int .i64 ((xs.length : Nat) : Int))), (19, .v (.int .i64 i)), (20, .v (.bool (decide (i < ((xs.length : Nat) : Int)))))], [(1, ⟨65, [.v (.int .i64 k1), .v (.slice A xs.length ca), .v (.string s1)]⟩), (2, ⟨70, [.v (.int .i64 0), .v (.int .i64 0), .v (.int .i64 0)]⟩), (3, ⟨70, [.v (.int .i64 e_), .v (.int .i64 f_), .v (.int .i64 g_)]⟩)]⟩ (by kernel_rfl) ?_
    refine X.split 20 rfl (fun h12 => ?_) (fun h12 => ?_)
    · -- slot 20: decide (i < ((xs.length : Nat) : Int)) is True
      replace h12 : i < ((xs.length : Nat) : Int) := of_decide_eq_true h12
      refine X.run 8 [1, 2, 3, 17, 18, 19, 21] [1, 2, 3] (.ops (aA B54 [1, 1, 1, 0, 1, 0, 0, 1, 1, 0, 0, 0]) (oA B54 [1, 1, 1, 0, 1, 0, 0, 1, 1, 0, 0, 0] 1 :: lA B54 [1, 1, 1, 0, 1, 0, 0, 1, 1, 0, 0, 0] 2)) [.seq (cA B54 [1, 1, 1, 0, 1, 0, 0, 1, 1, 0, 0, 1]), .blk 1, .seq (cA B54 [1, 1, 1, 0, 1, 0, 0, 1, 1, 1]), .loop J11, .blk 0, .seq (cA B54 [1, 1, 1, 1])] ⟨41, [(1, .own 1 0), (2, .own 2 0), (3, .own 3 0), (17, .v (.slice A xs.length ca)), (18, .v (.int .i64 ((xs.length : Nat) : Int))), (19, .v (.int .i64 i)), (21, .v (.int .i64 i))], [(1, ⟨65, [.v (.int .i64 k1), .v (.slice A xs.length ca), .v (.string s1)]⟩), (2, ⟨70, [.v (.int .i64 0), .v (.int .i64 0), .v (.int .i64 0)]⟩), (3, ⟨70, [.v (.int .i64 e_), .v (.int .i64 f_), .v (.int .i64 g_)]⟩)]⟩ (by kernel_rfl) ?_
      have b13 : (0 : Int) ≤ i := by omega
      have b14 : i < ((xs.length : Nat) : Int) := by omega
      refine X.index (t := 63) (e := 29) (sz := 1) (A := A) (n := xs.length) (c := ca) (ki := .i64) (i := i) (x := .tmp 17) (ix := .tmp 19) (by kernel_rfl) (by kernel_rfl) (by kernel_rfl) (by kernel_rfl) (by kernel_rfl) (by kernel_rfl) b13 b14 (fun _ _ => rowAt.so hx (by omega)) ?_
      obtain ⟨at15, lo15, hi15⟩ := At.int [] hx ((i).toNat) (by omega)
      simp only [IntKind.lo, IntKind.hi] at lo15 hi15
      refine X.load (t := 29) (A := A) (j := (i).toNat * 1) (x := .tmp 22) (z := .int .u32 (xs.getD ((i).toNat) 0)) [.int .u32 (xs.getD ((i).toNat) 0)] (by kernel_rfl) (by kernel_rfl) at15 (by kernel_rfl) (by kernel_rfl) ?_
      refine X.run 10 [1, 2, 3, 4, 5, 17, 18, 19, 25] [1, 2, 3] (.code (cA B54 [1, 1, 1, 0, 1, 0, 0, 1, 1, 0, 0, 1, 1])) [.blk 1, .seq (cA B54 [1, 1, 1, 0, 1, 0, 0, 1, 1, 1]), .loop J11, .blk 0, .seq (cA B54 [1, 1, 1, 1])] ⟨41, [(1, .own 1 0), (2, .own 2 0), (3, .own 3 0), (4, .v (.int .i64 i)), (5, .v (.int .u32 (xs.getD ((i).toNat) 0))), (17, .v (.slice A xs.length ca)), (18, .v (.int .i64 ((xs.length : Nat) : Int))), (19, .v (.int .i64 i)), (25, .v (.bool (decide (i < 3))))], [(1, ⟨65, [.v (.int .i64 k1), .v (.slice A xs.length ca), .v (.string s1)]⟩), (2, ⟨70, [.v (.int .i64 0), .v (.int .i64 0), .v (.int .i64 0)]⟩), (3, ⟨70, [.v (.int .i64 e_), .v (.int .i64 f_), .v (.int .i64 g_)]⟩)]⟩ (by kernel_rfl) ?_
      refine X.split 25 rfl (fun h16 => ?_) (fun h16 => ?_)
      · -- slot 25: decide (i < 3) is True
        replace h16 : i < 3 := of_decide_eq_true h16
        refine X.run 5 [1, 2, 3, 17, 18, 19, 26, 28] [1, 2, 3] (.ops (aA B54 [1, 1, 1, 0, 1, 0, 0, 1, 1, 0, 0, 1, 1, 0]) (oA B54 [1, 1, 1, 0, 1, 0, 0, 1, 1, 0, 0, 1, 1, 0] 3 :: lA B54 [1, 1, 1, 0, 1, 0, 0, 1, 1, 0, 0, 1, 1, 0] 4)) [.blk 1, .seq (cA B54 [1, 1, 1, 0, 1, 0, 0, 1, 1, 1]), .loop J11, .blk 0, .seq (cA B54 [1, 1, 1, 1])] ⟨41, [(1, .own 1 0), (2, .own 2 0), (3, .own 3 0), (17, .v (.slice A xs.length ca)), (18, .v (.int .i64 ((xs.length : Nat) : Int))), (19, .v (.int .i64 i)), (26, .v (.int .i64 i)), (28, .v (.int .i64 (IntKind.i64.wrap (xs.getD ((i).toNat) 0))))], [(1, ⟨65, [.v (.int .i64 k1), .v (.slice A xs.length ca), .v (.string s1)]⟩), (2, ⟨70, [.v (.int .i64 0), .v (.int .i64 0), .v (.int .i64 0)]⟩), (3, ⟨70, [.v (.int .i64 e_), .v (.int .i64 f_), .v (.int .i64 g_)]⟩)]⟩ (by kernel_rfl) ?_
        have hcs17 : i = 0 ∨ i = 1 ∨ i = 2 := by omega
        rcases hcs17 with rfl | rfl | rfl
        · -- i is 0
          refine X.run 9 [1, 2, 3, 17, 18, 19] [1, 2, 3] (.ex .normal) [.loop J11, .blk 0, .seq (cA B54 [1, 1, 1, 1])] ⟨41, [(1, .own 1 0), (2, .own 2 0), (3, .own 3 0), (17, .v (.slice A xs.length ca)), (18, .v (.int .i64 ((xs.length : Nat) : Int))), (19, .v (.int .i64 1))], [(1, ⟨65, [.v (.int .i64 k1), .v (.slice A xs.length ca), .v (.string s1)]⟩), (2, ⟨70, [.v (.int .i64 0), .v (.int .i64 0), .v (.int .i64 0)]⟩), (3, ⟨70, [.v (.int .i64 (IntKind.i64.wrap (xs.getD (((0 : Int)).toNat) 0))), .v (.int .i64 f_), .v (.int .i64 g_)]⟩)]⟩ (by kernel_rfl) ?_
          -- again (FTT=0)
          exact X.again (hJ11 _ _ _ _ ⟨1, IntKind.i64.wrap (xs.getD (((0 : Int)).toNat) 0), f_, g_, rfl, rfl, rfl, ⟨by omega, by omega, by rw [show (1 : Int) = 0 + 1 from rfl, cn_now (i := 0) (j := 0) rfl (by omega)]; exact wi64 (by omega) (by omega), by rw [show (1 : Int) = 0 + 1 from rfl, cn_step (by omega) (by omega)]; assumption, by rw [show (1 : Int) = 0 + 1 from rfl, cn_step (by omega) (by omega)]; assumption⟩, rfl⟩ (by omega))
        · -- i is 1
          refine X.run 9 [1, 2, 3, 17, 18, 19] [1, 2, 3] (.ex .normal) [.loop J11, .blk 0, .seq (cA B54 [1, 1, 1, 1])] ⟨41, [(1, .own 1 0), (2, .own 2 0), (3, .own 3 0), (17, .v (.slice A xs.length ca)), (18, .v (.int .i64 ((xs.length : Nat) : Int))), (19, .v (.int .i64 2))], [(1, ⟨65, [.v (.int .i64 k1), .v (.slice A xs.length ca), .v (.string s1)]⟩), (2, ⟨70, [.v (.int .i64 0), .v (.int .i64 0), .v (.int .i64 0)]⟩), (3, ⟨70, [.v (.int .i64 e_), .v (.int .i64 (IntKind.i64.wrap (xs.getD (((1 : Int)).toNat) 0))), .v (.int .i64 g_)]⟩)]⟩ (by kernel_rfl) ?_
          -- again (FTT=1)
          exact X.again (hJ11 _ _ _ _ ⟨2, e_, IntKind.i64.wrap (xs.getD (((1 : Int)).toNat) 0), g_, rfl, rfl, rfl, ⟨by omega, by omega, by rw [show (2 : Int) = 1 + 1 from rfl, cn_step (by omega) (by omega)]; assumption, by rw [show (2 : Int) = 1 + 1 from rfl, cn_now (i := 1) (j := 1) rfl (by omega)]; exact wi64 (by omega) (by omega), by rw [show (2 : Int) = 1 + 1 from rfl, cn_step (by omega) (by omega)]; assumption⟩, rfl⟩ (by omega))
        · -- i is 2
          refine X.run 9 [1, 2, 3, 17, 18, 19] [1, 2, 3] (.ex .normal) [.loop J11, .blk 0, .seq (cA B54 [1, 1, 1, 1])] ⟨41, [(1, .own 1 0), (2, .own 2 0), (3, .own 3 0), (17, .v (.slice A xs.length ca)), (18, .v (.int .i64 ((xs.length : Nat) : Int))), (19, .v (.int .i64 3))], [(1, ⟨65, [.v (.int .i64 k1), .v (.slice A xs.length ca), .v (.string s1)]⟩), (2, ⟨70, [.v (.int .i64 0), .v (.int .i64 0), .v (.int .i64 0)]⟩), (3, ⟨70, [.v (.int .i64 e_), .v (.int .i64 f_), .v (.int .i64 (IntKind.i64.wrap (xs.getD (((2 : Int)).toNat) 0)))]⟩)]⟩ (by kernel_rfl) ?_
          -- again (FTT=2)
          exact X.again (hJ11 _ _ _ _ ⟨3, e_, f_, IntKind.i64.wrap (xs.getD (((2 : Int)).toNat) 0), rfl, rfl, rfl, ⟨by omega, by omega, by rw [show (3 : Int) = 2 + 1 from rfl, cn_step (by omega) (by omega)]; assumption, by rw [show (3 : Int) = 2 + 1 from rfl, cn_step (by omega) (by omega)]; assumption, by rw [show (3 : Int) = 2 + 1 from rfl, cn_now (i := 2) (j := 2) rfl (by omega)]; exact wi64 (by omega) (by omega)⟩, rfl⟩ (by omega))
      · -- slot 25: decide (i < 3) is False
        replace h16 : ¬ (i < 3) := of_decide_eq_false h16
        refine X.run 8 [1, 2, 3, 17, 18, 19] [1, 2, 3] (.ex .normal) [.loop J11, .blk 0, .seq (cA B54 [1, 1, 1, 1])] ⟨41, [(1, .own 1 0), (2, .own 2 0), (3, .own 3 0), (17, .v (.slice A xs.length ca)), (18, .v (.int .i64 ((xs.length : Nat) : Int))), (19, .v (.int .i64 (IntKind.i64.wrap (i + 1))))], [(1, ⟨65, [.v (.int .i64 k1), .v (.slice A xs.length ca), .v (.string s1)]⟩), (2, ⟨70, [.v (.int .i64 0), .v (.int .i64 0), .v (.int .i64 0)]⟩), (3, ⟨70, [.v (.int .i64 e_), .v (.int .i64 f_), .v (.int .i64 g_)]⟩)]⟩ (by kernel_rfl) ?_
        -- again (FTF)
        have e1 : IntKind.i64.wrap (i + 1) = i + 1 := wi64 (by omega) (by omega)
        exact X.again (hJ11 _ _ _ _ ⟨IntKind.i64.wrap (i + 1), e_, f_, g_, rfl, rfl, rfl, ⟨by omega, by omega, by rw [e1, cn_step (by omega) (by omega)]; assumption, by rw [e1, cn_step (by omega) (by omega)]; assumption, by rw [e1, cn_step (by omega) (by omega)]; assumption⟩, rfl⟩ (by rw [e1]; omega))
    · -- slot 20: decide (i < ((xs.length : Nat) : Int)) is False
      replace h12 : ¬ (i < ((xs.length : Nat) : Int)) := of_decide_eq_false h12
      refine X.run 14 [2, 3, 33] [2, 3] (.code (cA B54 [1, 1, 1, 1, 0, 1])) [.seq (cA B54 [1, 1, 1, 1, 1])] ⟨41, [(2, .own 2 0), (3, .own 3 0), (33, .v (.bool (k1 == 174)))], [(2, ⟨70, [.v (.int .i64 0), .v (.int .i64 0), .v (.int .i64 0)]⟩), (3, ⟨70, [.v (.int .i64 e_), .v (.int .i64 f_), .v (.int .i64 g_)]⟩)]⟩ (by kernel_rfl) ?_
      refine X.split 33 rfl (fun h18 => ?_) (fun h18 => ?_)
      · -- slot 33: k1 == 174 is True
        replace h18 : k1 = 174 := by simpa using h18
        refine X.run 19 [2] [2] (.ex .ret) [] ⟨41, [(2, .own 2 0)], [(2, ⟨70, [.v (.int .i64 g_), .v (.int .i64 f_), .v (.int .i64 e_)]⟩)]⟩ (by kernel_rfl) ?_
        refine doneG (.inl rfl) [.agg #[.int .i64 g_, .int .i64 f_, .int .i64 e_]] [] (by kernel_rfl) rfl rfl (Ge.refl _ _) ?_
        -- end 4 (FFT)
        have hi_ : i = (xs.length : Int) := by omega
        subst hi_
        subst he_; subst hf_; subst hg_
        exact ⟨by unfold ct; rw [show k1 = 174 by assumption]; rfl, rfl⟩
      · -- slot 33: k1 == 174 is False
        replace h18 : k1 ≠ 174 := by simpa using h18
        refine X.run 10 [2] [2] (.ex .ret) [] ⟨41, [(2, .own 2 0)], [(2, ⟨70, [.v (.int .i64 e_), .v (.int .i64 f_), .v (.int .i64 g_)]⟩)]⟩ (by kernel_rfl) ?_
        refine doneG (.inl rfl) [.agg #[.int .i64 e_, .int .i64 f_, .int .i64 g_]] [] (by kernel_rfl) rfl rfl (Ge.refl _ _) ?_
        -- end 5 (FFF)
        have hi_ : i = (xs.length : Int) := by omega
        subst hi_
        subst he_; subst hf_; subst hg_
        exact ⟨by unfold ct; rw [if_pos (show k1 = 172 by omega), if_pos (show k1 = 172 by omega), if_pos (show k1 = 172 by omega)]; rfl, rfl⟩
end Go.Proofs.YtjgpdbkkpomhjaaX
