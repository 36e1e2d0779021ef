/- option.Parse -/
import Derived.Test.YtjgpdbkkpomhjaaProg
import Derived.KernelRfl
import Derived.Test.YtjgpdbkkpomhjaaXP1
namespace Go.Proofs.YtjgpdbkkpomhjaaX
open Go.RowKit
set_option linter.unusedVariables false
set_option linter.unusedSimpArgs false
set_option maxRecDepth 100000
theorem oneO_kind (l : List Int) : (oneO l).1 = l.getD 0 0 := by
  unfold oneO optS
  (repeat' split) <;> rfl
theorem oneO_range (l : List Int) : ∀ n ∈ (oneO l).2.1, IntKind.lo .u32 ≤ n ∧ n ≤ IntKind.hi .u32 := by
  intro n hn
  simp only [IntKind.lo, IntKind.hi]
  unfold oneO optS at hn
  split at hn
  · split at hn
    · cases hn
    · have := numsOf_range _ _ _ n hn
      omega
  · cases hn
theorem oneO_str {l : List Int} (h : l.length ≤ 60) : (oneO l).2.2.size ≤ maxLen := by
  unfold oneO optS
  split
  · split
    · exact strOf_small (by unfold inB; rw [List.length_drop, List.length_take]; omega)
    · exact Nat.zero_le _
  · exact Nat.zero_le _
theorem one_rep {G : Mem} {A : Option Addr} {c : Nat} {l : List Int} (hk : 0 ≤ l.getD 0 0 ∧ l.getD 0 0 ≤ 255) (h60 : l.length ≤ 60) (h2 : (oneO l).2.1.length ≤ c) (h3 : c ≤ maxLen) (h4 : rowAt (D.int .u32) G A (oneO l).2.1) : optD.rep G (oneO l) [.int .i64 (l.getD 0 0), .slice A (oneO l).2.1.length c, .string (oneO l).2.2] := by
  have h := opt_rep (k := l.getD 0 0) (s := (oneO l).2.2) (by simp only [IntKind.lo, IntKind.hi]; omega) h2 h3 h4 ⟨rfl, oneO_str h60⟩
  rw [← oneO_kind] at h ⊢
  exact h

/-- slices.ContainsFunc[[]byte,byte] -/
noncomputable def B118 : Code := bodyOf Try.f118

/-- slices.IndexFunc[[]byte,byte] -/
noncomputable def B156 : Code := bodyOf Try.f156

/-- leat/option.Parse-1 -/
noncomputable def B119 : Code := bodyOf Try.f119

/-- leat/option.Parse -/
noncomputable def B58 : Code := bodyOf Try.f58
noncomputable def C58 : Code := scopeOf (cA B58 [1])
set_option maxHeartbeats 4000000 in
theorem Parse_ok (A : Option Addr) (c : Nat) (ns : List Int) (G : Mem) (hr : rowAt (D.int .u8) G A ns) (hle : ns.length ≤ c) (hmx : c ≤ maxLen) : CallsG Try.prog 58 [.slice A ns.length c] G (fun G' v rows => ∃ A' c' cs, v = .tuple #[.slice A' (optP ns).1.length c', .int .i64 (optP ns).2] ∧ rows = [⟨65, 3, .slice A' (optP ns).1.length c', (optP ns).1.length, cs⟩] ∧ repsD optD G' (optP ns).1 cs) := by
  simp only [maxLen] at hmx
  refine CallsG.enter Try.func58 rfl rfl ?_
  intro w
  refine X.run 6 [0, 2, 3] [] (.code (cA B58 [1])) [] ⟨48, [(0, .v (.slice A ns.length c)), (2, .v (.slice none 0 0)), (3, .v (.int .i64 0))], []⟩ (by kernel_rfl) ?_
  refine X.scope (c' := C58) (by kernel_rfl) ?_
  refine X.run 8 [0, 2, 3, 10] [] (.code (cA C58 [0, 1])) [.seq (cA C58 [1])] ⟨48, [(0, .v (.slice A ns.length c)), (2, .v (.slice none 0 0)), (3, .v (.int .i64 0)), (10, .v (.bool (decide (((ns.length : Nat) : Int) > 40))))], []⟩ (by kernel_rfl) ?_
  refine X.split 10 rfl (fun h1 => ?_) (fun h1 => ?_)
  · -- slot 10: decide (((ns.length : Nat) : Int) > 40) is True
    replace h1 : ((ns.length : Nat) : Int) > 40 := of_decide_eq_true h1
    refine X.run 9 [2, 3] [] (.ex .ret) [] ⟨48, [(2, .v (.slice none 0 0)), (3, .v (.int .i64 4))], []⟩ (by kernel_rfl) ?_
    refine X.scopeEnd (fun _ h => by cases h) ?_
    refine X.run 0 [2, 3] [] (.ex .ret) [] ⟨48, [(2, .v (.slice none 0 0)), (3, .v (.int .i64 4))], []⟩ (by kernel_rfl) ?_
    refine X.nilRow 900 65 3 rfl ?_
    refine doneG (.inl rfl) [.slice none 0 0, .int .i64 4] [900] (by kernel_rfl) rfl rfl (Ge.refl _ _) ?_
    -- end 1 (T)
    have hP_ : optP ns = ([], 4) := optP_long (by omega)
    rw [hP_]
    exact ⟨none, 0, [], rfl, rfl, rfl⟩
  · -- slot 10: decide (((ns.length : Nat) : Int) > 40) is False
    replace h1 : ¬ (((ns.length : Nat) : Int) > 40) := of_decide_eq_false h1
    refine X.run 13 [0, 2, 3, 4] [] (.code (cA C58 [1, 1, 1, 0, 0])) [.blk 0, .seq (cA C58 [1, 1, 1, 1])] ⟨48, [(0, .v (.slice A ns.length c)), (2, .v (.slice none 0 0)), (3, .v (.int .i64 0)), (4, .v (.slice none 0 0))], []⟩ (by kernel_rfl) ?_
    refine X.nilRow 30 65 3 rfl ?_
    refine X.run 0 [0, 4] [] (.code (cA C58 [1, 1, 1, 0, 0])) [.blk 0, .seq (cA C58 [1, 1, 1, 1])] ⟨48, [(0, .v (.slice A ns.length c)), (4, .v (.slice none 0 0))], []⟩ (by kernel_rfl) ?_
    refine X.loopJ (fun m s R' G' => ∃ (Y_ B_ : Option Addr) (yc_ c_ n_ : Nat) (ys_ : List Int) (l_ : List Opt) (cs_ : List Value), s = ⟨48, [(0, .v (.slice Y_ ys_.length yc_)), (4, .v (.slice B_ n_ c_))], []⟩ ∧ R' = [(30, ⟨65, 3, .slice B_ n_ c_, n_, cs_⟩)] ∧ Ge G w.heap.size G' ∧ (rowAt (D.int .u8) G' Y_ ys_ ∧ ys_.length ≤ yc_ ∧ yc_ ≤ maxLen ∧ parseO l_ ys_ = parseO [] ns ∧ repsD optD G' l_ cs_ ∧ n_ = l_.length ∧ 2 * n_ + ys_.length ≤ 40) ∧ m = ys_.length) _ ⟨A, none, c, 0, 0, ns, [], [], rfl, rfl, Ge.refl _ _, ⟨hr, hle, hmx, rfl, rfl, rfl, by omega⟩, rfl⟩ ?_
    rintro m2 s2 R2 G2 ⟨Y_, B_, yc_, c_, n_, ys_, l_, cs_, rfl, rfl, hG2, hF2, rfl⟩ J2 hJ2
    replace hr := hr.mono hG2.le
    obtain ⟨hry, hyc, hym, hpa, hcs, hn, hb⟩ := hF2
    simp only [maxLen] at hym
    refine X.run 8 [0, 4, 13] [] (.code (cA C58 [1, 1, 1, 0, 0, 0, 0, 1])) [.seq (cA C58 [1, 1, 1, 0, 0, 0, 1]), .loop J2, .blk 0, .seq (cA C58 [1, 1, 1, 1])] ⟨48, [(0, .v (.slice Y_ ys_.length yc_)), (4, .v (.slice B_ n_ c_)), (13, .v (.bool (decide (((ys_.length : Nat) : Int) > 0))))], []⟩ (by kernel_rfl) ?_
    refine X.split 13 rfl (fun h3 => ?_) (fun h3 => ?_)
    · -- slot 13: decide (((ys_.length : Nat) : Int) > 0) is True
      replace h3 : ((ys_.length : Nat) : Int) > 0 := of_decide_eq_true h3
      refine X.run 8 [0, 4, 14] [] (.ops (aA C58 [1, 1, 1, 0, 0, 0, 1, 0, 0, 0]) (oA C58 [1, 1, 1, 0, 0, 0, 1, 0, 0, 0] 1 :: lA C58 [1, 1, 1, 0, 0, 0, 1, 0, 0, 0] 2)) [.seq (cA C58 [1, 1, 1, 0, 0, 0, 1, 0, 0, 1]), .seq (cA C58 [1, 1, 1, 0, 0, 0, 1, 0, 1]), .blk 1, .loop J2, .blk 0, .seq (cA C58 [1, 1, 1, 1])] ⟨48, [(0, .v (.slice Y_ ys_.length yc_)), (4, .v (.slice B_ n_ c_)), (14, .v (.slice Y_ ys_.length yc_))], []⟩ (by kernel_rfl) ?_
      have b4 : (0 : Int) ≤ 0 := by omega
      have b5 : 0 < ((ys_.length : Nat) : Int) := by omega
      refine X.index (t := 22) (e := 5) (sz := 1) (A := Y_) (n := ys_.length) (c := yc_) (ki := .i64) (i := 0) (x := .tmp 14) (ix := .const (.int .i64 0)) (by kernel_rfl) (by kernel_rfl) (by kernel_rfl) (by kernel_rfl) (by kernel_rfl) (by kernel_rfl) b4 b5 (fun _ _ => rowAt.so hry (by omega)) ?_
      obtain ⟨at6, lo6, hi6⟩ := At.int [(30, ⟨65, 3, .slice B_ n_ c_, n_, cs_⟩)] hry 0 (by omega)
      simp only [IntKind.lo, IntKind.hi] at lo6 hi6
      refine X.run 0 [0, 4, 15] [] (.ops (aA C58 [1, 1, 1, 0, 0, 0, 1, 0, 0, 0]) (oA C58 [1, 1, 1, 0, 0, 0, 1, 0, 0, 0] 2 :: lA C58 [1, 1, 1, 0, 0, 0, 1, 0, 0, 0] 3)) [.seq (cA C58 [1, 1, 1, 0, 0, 0, 1, 0, 0, 1]), .seq (cA C58 [1, 1, 1, 0, 0, 0, 1, 0, 1]), .blk 1, .loop J2, .blk 0, .seq (cA C58 [1, 1, 1, 1])] ⟨48, [(0, .v (.slice Y_ ys_.length yc_)), (4, .v (.slice B_ n_ c_)), (15, .v (elt Y_ (0 * 1)))], []⟩ (by kernel_rfl) ?_
      refine X.load (t := 5) (A := Y_) (j := 0 * 1) (x := .tmp 15) (z := .int .u8 (ys_.getD 0 0)) [.int .u8 (ys_.getD 0 0)] (by kernel_rfl) (by kernel_rfl) at6 (by kernel_rfl) (by kernel_rfl) ?_
      refine X.run 9 [0, 4, 16, 17] [] (.code (cA C58 [1, 1, 1, 0, 0, 0, 1, 0, 0, 1, 0, 1])) [.blk 2, .seq (cA C58 [1, 1, 1, 0, 0, 0, 1, 0, 1]), .blk 1, .loop J2, .blk 0, .seq (cA C58 [1, 1, 1, 1])] ⟨48, [(0, .v (.slice Y_ ys_.length yc_)), (4, .v (.slice B_ n_ c_)), (16, .v (.int .u8 (ys_.getD 0 0))), (17, .v (.bool ((ys_.getD 0 0) == 0)))], []⟩ (by kernel_rfl) ?_
      refine X.split 17 rfl (fun h7 => ?_) (fun h7 => ?_)
      · -- slot 17: (ys_.getD 0 0) == 0 is True
        replace h7 : (ys_.getD 0 0) = 0 := by simpa using h7
        refine X.run 5 [0, 4, 19] [] (.ops (aA C58 [1, 1, 1, 0, 0, 0, 1, 0, 0, 1, 0, 1, 0, 0, 0]) (oA C58 [1, 1, 1, 0, 0, 0, 1, 0, 0, 1, 0, 1, 0, 0, 0] 1 :: lA C58 [1, 1, 1, 0, 0, 0, 1, 0, 0, 1, 0, 1, 0, 0, 0] 2)) [.seq (cA C58 [1, 1, 1, 0, 0, 0, 1, 0, 0, 1, 0, 1, 0, 0, 1]), .seq (cA C58 [1, 1, 1, 0, 0, 0, 1, 0, 0, 1, 0, 1, 0, 1]), .blk 2, .seq (cA C58 [1, 1, 1, 0, 0, 0, 1, 0, 1]), .blk 1, .loop J2, .blk 0, .seq (cA C58 [1, 1, 1, 1])] ⟨48, [(0, .v (.slice Y_ ys_.length yc_)), (4, .v (.slice B_ n_ c_)), (19, .v (.slice Y_ ys_.length yc_))], []⟩ (by kernel_rfl) ?_
        refine X.inline (f := 118) (l := [.v (.slice Y_ ys_.length yc_), .fn 119 []]) (fn := Try.f118) (c := B118) (by kernel_rfl) (by kernel_rfl) Try.func118 (by kernel_rfl) ?_
        intro Q8 M8 hM8 hQ8 fin8
        refine X.run 9 [4, 5, 6] [] (.ops (aA B118 [1, 0]) (oA B118 [1, 0] 2 :: lA B118 [1, 0] 3)) [.seq (cA B118 [1, 1])] ⟨9, [(4, .v (.bool false)), (5, .v (.slice Y_ ys_.length yc_)), (6, .fn 119 [])], []⟩ (by kernel_rfl) ?_
        refine X.inline (f := 156) (l := [.v (.slice Y_ ys_.length yc_), .fn 119 []]) (fn := Try.f156) (c := B156) (by kernel_rfl) (by kernel_rfl) Try.func156 (by kernel_rfl) ?_
        intro Q9 M9 hM9 hQ9 fin9
        refine X.run 14 [0, 1, 4, 7, 8] [] (.code (cA B156 [1, 0, 1, 0])) [.blk 0, .seq (cA B156 [1, 1])] ⟨19, [(0, .v (.slice Y_ ys_.length yc_)), (1, .fn 119 []), (4, .v (.int .i64 0)), (7, .v (.int .i64 ((ys_.length : Nat) : Int))), (8, .v (.int .i64 0))], []⟩ (by kernel_rfl) ?_
        refine X.run 0 [0, 1, 7, 8] [] (.code (cA B156 [1, 0, 1, 0])) [.blk 0, .seq (cA B156 [1, 1])] ⟨19, [(0, .v (.slice Y_ ys_.length yc_)), (1, .fn 119 []), (7, .v (.int .i64 ((ys_.length : Nat) : Int))), (8, .v (.int .i64 0))], []⟩ (by kernel_rfl) ?_
        refine X.loopJ (fun m s R' G' => ∃ (i : Int), s = ⟨19, [(0, .v (.slice Y_ ys_.length yc_)), (1, .fn 119 []), (7, .v (.int .i64 ((ys_.length : Nat) : Int))), (8, .v (.int .i64 i))], []⟩ ∧ R' = [(30, ⟨65, 3, .slice B_ n_ c_, n_, cs_⟩)] ∧ G2 = G' ∧ (0 ≤ i ∧ i ≤ (ys_.length : Int) ∧ ∀ x ∈ ys_.take i.toNat, x = 0) ∧ m = ((ys_.length : Int) - i).toNat) _ ⟨0, rfl, rfl, rfl, ⟨by omega, by omega, by simp⟩, rfl⟩ ?_
        rintro m10 s10 R10 G10 ⟨i, rfl, rfl, rfl, hF10, rfl⟩ J10 hJ10
        obtain ⟨hi0, hi1, hi2⟩ := hF10
        refine X.run 6 [0, 1, 7, 8, 9] [] (.code (cA B156 [1, 0, 1, 0, 0, 1, 0])) [.seq (cA B156 [1, 0, 1, 0, 0, 1, 1]), .loop J10, .blk 0, .seq (cA B156 [1, 1])] ⟨19, [(0, .v (.slice Y_ ys_.length yc_)), (1, .fn 119 []), (7, .v (.int .i64 ((ys_.length : Nat) : Int))), (8, .v (.int .i64 i)), (9, .v (.bool (decide (i < ((ys_.length : Nat) : Int)))))], []⟩ (by kernel_rfl) ?_
        refine X.split 9 rfl (fun h11 => ?_) (fun h11 => ?_)
        · -- slot 9: decide (i < ((ys_.length : Nat) : Int)) is True
          replace h11 : i < ((ys_.length : Nat) : Int) := of_decide_eq_true h11
          refine X.run 16 [0, 1, 5, 7, 8, 11, 12, 13] [] (.ops (aA B156 [1, 0, 1, 0, 0, 1, 1, 0, 0, 1, 0]) (oA B156 [1, 0, 1, 0, 0, 1, 1, 0, 0, 1, 0] 3 :: lA B156 [1, 0, 1, 0, 0, 1, 1, 0, 0, 1, 0] 4)) [.seq (cA B156 [1, 0, 1, 0, 0, 1, 1, 0, 0, 1, 1]), .blk 1, .seq (cA B156 [1, 0, 1, 0, 0, 1, 1, 1]), .loop J10, .blk 0, .seq (cA B156 [1, 1])] ⟨19, [(0, .v (.slice Y_ ys_.length yc_)), (1, .fn 119 []), (5, .v (.int .i64 i)), (7, .v (.int .i64 ((ys_.length : Nat) : Int))), (8, .v (.int .i64 i)), (11, .fn 119 []), (12, .v (.slice Y_ ys_.length yc_)), (13, .v (.int .i64 i))], []⟩ (by kernel_rfl) ?_
          have b12 : (0 : Int) ≤ i := by omega
          have b13 : i < ((ys_.length : Nat) : Int) := by omega
          refine X.index (t := 22) (e := 5) (sz := 1) (A := Y_) (n := ys_.length) (c := yc_) (ki := .i64) (i := i) (x := .tmp 12) (ix := .tmp 13) (by kernel_rfl) (by kernel_rfl) (by kernel_rfl) (by kernel_rfl) (by kernel_rfl) (by kernel_rfl) b12 b13 (fun _ _ => rowAt.so hry (by omega)) ?_
          obtain ⟨at14, lo14, hi14⟩ := At.int [(30, ⟨65, 3, .slice B_ n_ c_, n_, cs_⟩)] hry ((i).toNat) (by omega)
          simp only [IntKind.lo, IntKind.hi] at lo14 hi14
          refine X.run 0 [0, 1, 5, 7, 8, 11, 14] [] (.ops (aA B156 [1, 0, 1, 0, 0, 1, 1, 0, 0, 1, 0]) (oA B156 [1, 0, 1, 0, 0, 1, 1, 0, 0, 1, 0] 4 :: lA B156 [1, 0, 1, 0, 0, 1, 1, 0, 0, 1, 0] 5)) [.seq (cA B156 [1, 0, 1, 0, 0, 1, 1, 0, 0, 1, 1]), .blk 1, .seq (cA B156 [1, 0, 1, 0, 0, 1, 1, 1]), .loop J10, .blk 0, .seq (cA B156 [1, 1])] ⟨19, [(0, .v (.slice Y_ ys_.length yc_)), (1, .fn 119 []), (5, .v (.int .i64 i)), (7, .v (.int .i64 ((ys_.length : Nat) : Int))), (8, .v (.int .i64 i)), (11, .fn 119 []), (14, .v (elt Y_ ((i).toNat * 1)))], []⟩ (by kernel_rfl) ?_
          refine X.load (t := 5) (A := Y_) (j := (i).toNat * 1) (x := .tmp 14) (z := .int .u8 (ys_.getD ((i).toNat) 0)) [.int .u8 (ys_.getD ((i).toNat) 0)] (by kernel_rfl) (by kernel_rfl) at14 (by kernel_rfl) (by kernel_rfl) ?_
          refine X.run 0 [0, 1, 5, 7, 8, 11, 15] [] (.ops (aA B156 [1, 0, 1, 0, 0, 1, 1, 0, 0, 1, 0]) (oA B156 [1, 0, 1, 0, 0, 1, 1, 0, 0, 1, 0] 5 :: lA B156 [1, 0, 1, 0, 0, 1, 1, 0, 0, 1, 0] 6)) [.seq (cA B156 [1, 0, 1, 0, 0, 1, 1, 0, 0, 1, 1]), .blk 1, .seq (cA B156 [1, 0, 1, 0, 0, 1, 1, 1]), .loop J10, .blk 0, .seq (cA B156 [1, 1])] ⟨19, [(0, .v (.slice Y_ ys_.length yc_)), (1, .fn 119 []), (5, .v (.int .i64 i)), (7, .v (.int .i64 ((ys_.length : Nat) : Int))), (8, .v (.int .i64 i)), (11, .fn 119 []), (15, .v (.int .u8 (ys_.getD ((i).toNat) 0)))], []⟩ (by kernel_rfl) ?_
          refine X.inline (f := 119) (l := [.v (.int .u8 (ys_.getD ((i).toNat) 0))]) (fn := Try.f119) (c := B119) (by kernel_rfl) (by kernel_rfl) Try.func119 (by kernel_rfl) ?_
          intro Q15 M15 hM15 hQ15 fin15
          refine X.run 13 [2] [] (.ex .ret) [] ⟨5, [(2, .v (.bool ((ys_.getD ((i).toNat) 0) != 0)))], []⟩ (by kernel_rfl) ?_
          refine fin15 _ _ _ _ [.bool ((ys_.getD ((i).toNat) 0) != 0)] [] (.inl rfl) (by kernel_rfl) (by kernel_rfl) ?_
          refine X.run 2 [0, 1, 5, 7, 8, 16] [] (.code (cA B156 [1, 0, 1, 0, 0, 1, 1, 0, 0, 1, 1])) [.blk 1, .seq (cA B156 [1, 0, 1, 0, 0, 1, 1, 1]), .loop J10, .blk 0, .seq (cA B156 [1, 1])] ⟨19, [(0, .v (.slice Y_ ys_.length yc_)), (1, .fn 119 []), (5, .v (.int .i64 i)), (7, .v (.int .i64 ((ys_.length : Nat) : Int))), (8, .v (.int .i64 i)), (16, .v (.bool ((ys_.getD ((i).toNat) 0) != 0)))], []⟩ (by kernel_rfl) ?_
          refine X.split 16 rfl (fun h16 => ?_) (fun h16 => ?_)
          · -- slot 16: (ys_.getD ((i).toNat) 0) != 0 is True
            replace h16 : (ys_.getD ((i).toNat) 0) ≠ 0 := by simpa using h16
            refine X.run 13 [4] [] (.ex .ret) [] ⟨19, [(4, .v (.int .i64 i))], []⟩ (by kernel_rfl) ?_
            refine fin9 _ _ _ _ [.int .i64 i] [] (.inl rfl) (by kernel_rfl) (by kernel_rfl) ?_
            refine X.run 5 [4] [] (.ex .ret) [] ⟨9, [(4, .v (.bool (decide (i ≥ 0))))], []⟩ (by kernel_rfl) ?_
            refine fin8 _ _ _ _ [.bool (decide (i ≥ 0))] [] (.inl rfl) (by kernel_rfl) (by kernel_rfl) ?_
            refine X.run 2 [0, 4, 20] [] (.code (cA C58 [1, 1, 1, 0, 0, 0, 1, 0, 0, 1, 0, 1, 0, 0, 1])) [.seq (cA C58 [1, 1, 1, 0, 0, 0, 1, 0, 0, 1, 0, 1, 0, 1]), .blk 2, .seq (cA C58 [1, 1, 1, 0, 0, 0, 1, 0, 1]), .blk 1, .loop J2, .blk 0, .seq (cA C58 [1, 1, 1, 1])] ⟨48, [(0, .v (.slice Y_ ys_.length yc_)), (4, .v (.slice B_ n_ c_)), (20, .v (.bool (decide (i ≥ 0))))], []⟩ (by kernel_rfl) ?_
            refine X.isTrue 20 rfl (decide_eq_true (by omega)) ?_
            refine X.run 15 [2, 3] [] (.ex .ret) [] ⟨48, [(2, .v (.slice none 0 0)), (3, .v (.int .i64 5))], []⟩ (by kernel_rfl) ?_
            refine X.scopeEnd (fun _ h => by cases h) ?_
            refine X.run 0 [2, 3] [] (.ex .ret) [] ⟨48, [(2, .v (.slice none 0 0)), (3, .v (.int .i64 5))], []⟩ (by kernel_rfl) ?_
            refine X.nilRow 900 65 3 rfl ?_
            refine doneG (.inl rfl) [.slice none 0 0, .int .i64 5] [900] (by kernel_rfl) rfl rfl (hG2) ?_
            -- end 5 (FTTTT)
            have hP_ : optP ns = ([], 5) := (optP_of (by omega)).trans (hpa.symm.trans (parse_bad (i := i.toNat) (by omega) (by assumption) (by omega) (by assumption)))
            rw [hP_]
            exact ⟨none, 0, [], rfl, rfl, rfl⟩
          · -- slot 16: (ys_.getD ((i).toNat) 0) != 0 is False
            replace h16 : (ys_.getD ((i).toNat) 0) = 0 := by simpa using h16
            refine X.run 8 [0, 1, 7, 8] [] (.ex .normal) [.loop J10, .blk 0, .seq (cA B156 [1, 1])] ⟨19, [(0, .v (.slice Y_ ys_.length yc_)), (1, .fn 119 []), (7, .v (.int .i64 ((ys_.length : Nat) : Int))), (8, .v (.int .i64 (IntKind.i64.wrap (i + 1))))], []⟩ (by kernel_rfl) ?_
            -- again (FTTTF)
            have e1 : IntKind.i64.wrap (i + 1) = i + 1 := wi64 (by omega) (by omega)
            have e0 : (i + 1).toNat = i.toNat + 1 := by omega
            exact X.again (hJ10 _ _ _ _ ⟨IntKind.i64.wrap (i + 1), rfl, rfl, rfl, ⟨by omega, by omega, by rw [e1, e0]; exact take_all (p := fun x : Int => x = 0) (d := 0) hi2 (by omega) (by assumption)⟩, rfl⟩ (by rw [e1]; omega))
        · -- slot 9: decide (i < ((ys_.length : Nat) : Int)) is False
          replace h11 : ¬ (i < ((ys_.length : Nat) : Int)) := of_decide_eq_false h11
          refine X.run 12 [4] [] (.ex .ret) [] ⟨19, [(4, .v (.int .i64 (-1)))], []⟩ (by kernel_rfl) ?_
          refine fin9 _ _ _ _ [.int .i64 (-1)] [] (.inl rfl) (by kernel_rfl) (by kernel_rfl) ?_
          refine X.run 5 [4] [] (.ex .ret) [] ⟨9, [(4, .v (.bool false))], []⟩ (by kernel_rfl) ?_
          refine fin8 _ _ _ _ [.bool false] [] (.inl rfl) (by kernel_rfl) (by kernel_rfl) ?_
          refine X.run 20 [2, 3] [] (.ex .ret) [] ⟨48, [(2, .v (.slice B_ n_ c_)), (3, .v (.int .i64 0))], []⟩ (by kernel_rfl) ?_
          refine X.scopeEnd (fun _ h => by cases h) ?_
          refine X.run 0 [2, 3] [] (.ex .ret) [] ⟨48, [(2, .v (.slice B_ n_ c_)), (3, .v (.int .i64 0))], []⟩ (by kernel_rfl) ?_
          refine doneG (.inl rfl) [.slice B_ n_ c_, .int .i64 0] [30] (by kernel_rfl) rfl rfl (hG2) ?_
          -- end 8 (FTTF)
          have hP_ : optP ns = (l_, 0) := (optP_of (by omega)).trans (hpa.symm.trans (parse_zero (by omega) (by rw [List.take_of_length_le (by omega)] at hi2; exact hi2)))
          rw [hP_, hn]
          exact ⟨B_, c_, cs_, rfl, rfl, hcs⟩
      · -- slot 17: (ys_.getD 0 0) == 0 is False
        replace h7 : (ys_.getD 0 0) ≠ 0 := by simpa using h7
        refine X.run 7 [0, 4, 21] [] (.code (cA C58 [1, 1, 1, 0, 0, 0, 1, 0, 0, 1, 0, 1, 1, 1])) [.blk 2, .seq (cA C58 [1, 1, 1, 0, 0, 0, 1, 0, 1]), .blk 1, .loop J2, .blk 0, .seq (cA C58 [1, 1, 1, 1])] ⟨48, [(0, .v (.slice Y_ ys_.length yc_)), (4, .v (.slice B_ n_ c_)), (21, .v (.bool ((ys_.getD 0 0) == 1)))], []⟩ (by kernel_rfl) ?_
        refine X.split 21 rfl (fun h17 => ?_) (fun h17 => ?_)
        · -- slot 21: (ys_.getD 0 0) == 1 is True
          replace h17 : (ys_.getD 0 0) = 1 := by simpa using h17
          refine X.run 4 [0, 4, 23] [] (.ops (aA C58 [1, 1, 1, 0, 0, 0, 1, 0, 0, 1, 0, 1, 1, 1, 0, 0]) (oA C58 [1, 1, 1, 0, 0, 0, 1, 0, 0, 1, 0, 1, 1, 1, 0, 0] 1 :: lA C58 [1, 1, 1, 0, 0, 0, 1, 0, 0, 1, 0, 1, 1, 1, 0, 0] 2)) [.seq (cA C58 [1, 1, 1, 0, 0, 0, 1, 0, 0, 1, 0, 1, 1, 1, 0, 1]), .blk 2, .seq (cA C58 [1, 1, 1, 0, 0, 0, 1, 0, 1]), .blk 1, .loop J2, .blk 0, .seq (cA C58 [1, 1, 1, 1])] ⟨48, [(0, .v (.slice Y_ ys_.length yc_)), (4, .v (.slice B_ n_ c_)), (23, .v (.slice Y_ ys_.length yc_))], []⟩ (by kernel_rfl) ?_
          have hlo18 : 1 ≤ ys_.length := by omega
          have hhi18 : ys_.length ≤ ys_.length := by omega
          refine X.cut (t := 22) (e := 5) (sz := 1) (n := ys_.length) (c := yc_) (A := Y_) (x := .tmp 23) (l := (some (.const (.int .i64 1)))) (h := none) (lv := (some (.int .i64 1))) (hv := none) 1 ys_.length (by kernel_rfl) (by kernel_rfl) (by kernel_rfl) (by kernel_rfl) (by kernel_rfl) (by kernel_rfl) (by kernel_rfl) (⟨_, _, rfl, by omega, rfl⟩) (rfl) hlo18 (Nat.le_trans hhi18 hyc) ?_
          obtain ⟨A18, hA18⟩ : ∃ A_, cutA Y_ yc_ 1 1 = A_ := ⟨_, rfl⟩
          obtain ⟨ys18, hys18⟩ : ∃ l_, (ys_.take ys_.length).drop 1 = l_ := ⟨_, rfl⟩
          have hr18 : rowAt (D.int .u8) G2 (cutA Y_ yc_ 1 1) ((ys_.take ys_.length).drop 1) := rowAt_cut hry hlo18 hhi18 hyc
          have hl18 : ys_.length - 1 = ys18.length := by rw [← hys18, List.length_drop, List.length_take]; omega
          have hc18 : ys18.length ≤ yc_ - 1 := by omega
          have hm18 : yc_ - 1 ≤ maxLen := Nat.le_trans (Nat.sub_le _ _) hym
          rw [hys18, show cutA Y_ yc_ 1 _ = A18 from hA18] at hr18
          rw [hA18, hl18]
          refine X.run 7 [0, 4] [] (.ex .normal) [.loop J2, .blk 0, .seq (cA C58 [1, 1, 1, 1])] ⟨48, [(0, .v (.slice A18 ys18.length (yc_ - 1))), (4, .v (.slice B_ n_ c_))], []⟩ (by kernel_rfl) ?_
          -- again (FTFT)
          rw [List.take_of_length_le (Nat.le_refl _)] at hys18
          exact X.again (hJ2 _ _ _ _ ⟨A18, B_, yc_ - 1, c_, n_, ys18, l_, cs_, rfl, rfl, hG2, ⟨hr18, hc18, hm18, by rw [← hys18, ← parse_one (by omega) (by assumption)]; exact hpa, hcs, hn, by omega⟩, rfl⟩ (by omega))
        · -- slot 21: (ys_.getD 0 0) == 1 is False
          replace h17 : (ys_.getD 0 0) ≠ 1 := by simpa using h17
          refine X.run 7 [0, 4, 26] [] (.ops (aA C58 [1, 1, 1, 0, 0, 0, 1, 0, 1, 0]) (oA C58 [1, 1, 1, 0, 0, 0, 1, 0, 1, 0] 1 :: lA C58 [1, 1, 1, 0, 0, 0, 1, 0, 1, 0] 2)) [.seq (cA C58 [1, 1, 1, 0, 0, 0, 1, 0, 1, 1]), .blk 1, .loop J2, .blk 0, .seq (cA C58 [1, 1, 1, 1])] ⟨48, [(0, .v (.slice Y_ ys_.length yc_)), (4, .v (.slice B_ n_ c_)), (26, .v (.slice Y_ ys_.length yc_))], []⟩ (by kernel_rfl) ?_
          refine X.callG (f := 120) (l := [.v (.slice Y_ ys_.length yc_)]) [.slice Y_ ys_.length yc_] 41 (by kernel_rfl) (by kernel_rfl) (by kernel_rfl) (one_ok Y_ yc_ ys_ _ hry hyc hym (by omega) (by omega)) ?_
          rintro v19 G19 rows19 hG19 ⟨A19, c19, rfl, rfl⟩
          replace hr := hr.mono hG19.le
          replace hry := hry.mono hG19.le
          replace hcs := hcs.mono hG19.le
          refine X.asR (R' := [(41, ⟨29, 1, .slice A19 ((oneO ys_).2.1.length) c19, (oneO ys_).2.1.length, ((oneO ys_).2.1).map (Value.int .u32)⟩), (30, ⟨65, 3, .slice B_ n_ c_, n_, cs_⟩)]) rfl ?_
          refine X.tellR [41, 30] (R' := [(41, ⟨29, 1, .slice A19 ((oneO ys_).2.1.length) c19, (oneO ys_).2.1.length, ((oneO ys_).2.1).map (Value.int .u32)⟩), (30, ⟨65, 3, .slice B_ n_ c_, n_, cs_⟩)]) rfl ?_
          refine X.capLe (i := 41) (q := ⟨29, 1, .slice A19 ((oneO ys_).2.1.length) c19, (oneO ys_).2.1.length, ((oneO ys_).2.1).map (Value.int .u32)⟩) (n := (oneO ys_).2.1.length) (c := c19) (A := A19) rfl rfl ?_
          intro hle20 hmx20
          refine X.freezeHd (i := 41) (n := (oneO ys_).2.1.length) (c := c19) (A := A19) (kd := .u32) ((oneO ys_).2.1) rfl rfl (oneO_range _) (by kernel_rfl) (fun _ h => h) ?_
          intro G20 hG20 hr20
          replace hr := hr.mono hG20.le
          replace hry := hry.mono hG20.le
          replace hcs := hcs.mono hG20.le
          refine X.run 19 [0, 4, 5, 6, 7, 31] [5] (.code (cA C58 [1, 1, 1, 0, 0, 0, 1, 0, 1, 1, 0, 0, 1])) [.blk 3, .seq (cA C58 [1, 1, 1, 0, 0, 0, 1, 0, 1, 1, 1]), .blk 1, .loop J2, .blk 0, .seq (cA C58 [1, 1, 1, 1])] ⟨48, [(0, .v (.slice Y_ ys_.length yc_)), (4, .v (.slice B_ n_ c_)), (5, .own 5 0), (6, .v (.int .i64 (oneN ys_))), (7, .v (.int .i64 (oneE ys_))), (31, .v (.bool ((oneE ys_) != 0)))], [(5, ⟨65, [.v (.int .i64 (ys_.getD 0 0)), .v (.slice A19 ((oneO ys_).2.1.length) c19), .v (.string ((oneO ys_).2.2))]⟩)]⟩ (by kernel_rfl) ?_
          refine X.split 31 rfl (fun h21 => ?_) (fun h21 => ?_)
          · -- slot 31: (oneE ys_) != 0 is True
            replace h21 : (oneE ys_) ≠ 0 := by simpa using h21
            refine X.run 15 [2, 3] [] (.ex .ret) [] ⟨48, [(2, .v (.slice none 0 0)), (3, .v (.int .i64 (oneE ys_)))], []⟩ (by kernel_rfl) ?_
            refine X.scopeEnd (fun _ h => by cases h) ?_
            refine X.run 0 [2, 3] [] (.ex .ret) [] ⟨48, [(2, .v (.slice none 0 0)), (3, .v (.int .i64 (oneE ys_)))], []⟩ (by kernel_rfl) ?_
            refine X.nilRow 900 65 3 rfl ?_
            refine doneG (.inl rfl) [.slice none 0 0, .int .i64 (oneE ys_)] [900] (by kernel_rfl) rfl rfl (((hG2.trans hG19).trans hG20)) ?_
            -- end 9 (FTFFT)
            have hP_ : optP ns = ([], oneE ys_) := (optP_of (by omega)).trans (hpa.symm.trans (parse_err (by omega) (by assumption) (by assumption) (by assumption)))
            rw [hP_]
            exact ⟨none, 0, [], rfl, rfl, rfl⟩
          · -- slot 31: (oneE ys_) != 0 is False
            replace h21 : (oneE ys_) = 0 := by simpa using h21
            obtain ⟨ho1, ho2, ho3, ho4, ho5⟩ := oneE_ok (by assumption)
            refine X.run 6 [0, 4, 5, 6, 36, 38] [5] (.ops (aA C58 [1, 1, 1, 0, 0, 0, 1, 0, 1, 1, 0, 0, 1, 1, 0]) (oA C58 [1, 1, 1, 0, 0, 0, 1, 0, 1, 1, 0, 0, 1, 1, 0] 3 :: lA C58 [1, 1, 1, 0, 0, 0, 1, 0, 1, 1, 0, 0, 1, 1, 0] 4)) [.seq (cA C58 [1, 1, 1, 0, 0, 0, 1, 0, 1, 1, 0, 0, 1, 1, 1]), .blk 3, .seq (cA C58 [1, 1, 1, 0, 0, 0, 1, 0, 1, 1, 1]), .blk 1, .loop J2, .blk 0, .seq (cA C58 [1, 1, 1, 1])] ⟨48, [(0, .v (.slice Y_ ys_.length yc_)), (4, .v (.slice B_ n_ c_)), (5, .own 5 0), (6, .v (.int .i64 (oneN ys_))), (36, .v (.slice B_ n_ c_)), (38, .v (.int .i64 (ys_.getD 0 0)))], [(5, ⟨65, [.v (.int .i64 (ys_.getD 0 0)), .v (.slice A19 ((oneO ys_).2.1.length) c19), .v (.string ((oneO ys_).2.2))]⟩)]⟩ (by kernel_rfl) ?_
            refine X.capLe (i := 30) (q := ⟨65, 3, .slice B_ n_ c_, n_, cs_⟩) (n := n_) (c := c_) (A := B_) rfl rfl ?_
            intro hle22 hmx22
            refine X.callV (f := 107) (l := [.v (.slice B_ n_ c_), .v (.int .i64 (ys_.getD 0 0))]) (Q := fun v_ => v_ = .bool (hadB l_ (ys_.getD 0 0))) [.slice B_ n_ c_, .int .i64 (ys_.getD 0 0)] (by kernel_rfl) (by kernel_rfl) (by kernel_rfl) (fun G1_ hl_ hr_ => by rw [hn]; exact (had_ok B_ c_ l_ (ys_.getD 0 0) G1_ (rowLit (hr_ 30 _ rfl) (hcs.mono hl_) (by decide)) (by omega) hmx22).mono (fun _ _ _ _ h_ => h_.1)) ?_
            rintro _ rfl
            refine X.run 3 [0, 4, 5, 6, 35] [5] (.code (cA C58 [1, 1, 1, 0, 0, 0, 1, 0, 1, 1, 0, 0, 1, 1, 1])) [.blk 3, .seq (cA C58 [1, 1, 1, 0, 0, 0, 1, 0, 1, 1, 1]), .blk 1, .loop J2, .blk 0, .seq (cA C58 [1, 1, 1, 1])] ⟨48, [(0, .v (.slice Y_ ys_.length yc_)), (4, .v (.slice B_ n_ c_)), (5, .own 5 0), (6, .v (.int .i64 (oneN ys_))), (35, .v (.bool (hadB l_ (ys_.getD 0 0))))], [(5, ⟨65, [.v (.int .i64 (ys_.getD 0 0)), .v (.slice A19 ((oneO ys_).2.1.length) c19), .v (.string ((oneO ys_).2.2))]⟩)]⟩ (by kernel_rfl) ?_
            refine X.split 35 rfl (fun h23 => ?_) (fun h23 => ?_)
            · -- slot 35: hadB l_ (ys_.getD 0 0) is True
              refine X.run 14 [2, 3] [] (.ex .ret) [] ⟨48, [(2, .v (.slice none 0 0)), (3, .v (.int .i64 5))], []⟩ (by kernel_rfl) ?_
              refine X.scopeEnd (fun _ h => by cases h) ?_
              refine X.run 0 [2, 3] [] (.ex .ret) [] ⟨48, [(2, .v (.slice none 0 0)), (3, .v (.int .i64 5))], []⟩ (by kernel_rfl) ?_
              refine X.nilRow 900 65 3 rfl ?_
              refine doneG (.inl rfl) [.slice none 0 0, .int .i64 5] [900] (by kernel_rfl) rfl rfl (((hG2.trans hG19).trans hG20)) ?_
              -- end 10 (FTFFFT)
              have hP_ : optP ns = ([], 5) := (optP_of (by omega)).trans (hpa.symm.trans (parse_had (by omega) (by assumption) (by assumption) (by assumption) (by assumption)))
              rw [hP_]
              exact ⟨none, 0, [], rfl, rfl, rfl⟩
            · -- slot 35: hadB l_ (ys_.getD 0 0) is False
              refine X.run 8 [0, 4, 6, 40, 41] [] (.ops (aA C58 [1, 1, 1, 0, 0, 0, 1, 0, 1, 1, 1, 0]) (oA C58 [1, 1, 1, 0, 0, 0, 1, 0, 1, 1, 1, 0] 2 :: lA C58 [1, 1, 1, 0, 0, 0, 1, 0, 1, 1, 1, 0] 3)) [.seq (cA C58 [1, 1, 1, 0, 0, 0, 1, 0, 1, 1, 1, 1]), .blk 1, .loop J2, .blk 0, .seq (cA C58 [1, 1, 1, 1])] ⟨48, [(0, .v (.slice Y_ ys_.length yc_)), (4, .v (.slice B_ n_ c_)), (6, .v (.int .i64 (oneN ys_))), (40, .v (.slice B_ n_ c_)), (41, .v (.agg #[.int .i64 (ys_.getD 0 0), .slice A19 ((oneO ys_).2.1.length) c19, .string ((oneO ys_).2.2)]))], []⟩ (by kernel_rfl) ?_
              refine X.lit 42 65 3 1 [.int .i64 (ys_.getD 0 0), .slice A19 ((oneO ys_).2.1.length) c19, .string ((oneO ys_).2.2)] (by kernel_rfl) (fun g => by kernel_rfl) ?_
              intro A24
              refine X.run 0 [0, 4, 6, 40, 42] [] (.ops (aA C58 [1, 1, 1, 0, 0, 0, 1, 0, 1, 1, 1, 0]) (oA C58 [1, 1, 1, 0, 0, 0, 1, 0, 1, 1, 1, 0] 3 :: lA C58 [1, 1, 1, 0, 0, 0, 1, 0, 1, 1, 1, 0] 4)) [.seq (cA C58 [1, 1, 1, 0, 0, 0, 1, 0, 1, 1, 1, 1]), .blk 1, .loop J2, .blk 0, .seq (cA C58 [1, 1, 1, 1])] ⟨48, [(0, .v (.slice Y_ ys_.length yc_)), (4, .v (.slice B_ n_ c_)), (6, .v (.int .i64 (oneN ys_))), (40, .v (.slice B_ n_ c_)), (42, .v (.slice A24 1 1))], []⟩ (by kernel_rfl) ?_
              refine X.append 30 ⟨65, 3, .slice B_ n_ c_, n_, cs_⟩ 59 48 (.agg #[.int .i64 0, .slice none 0 0, .string ByteArray.empty]) (x := .tmp 40) (y := .tmp 42) (n := n_) (c := c_) (m := 1) (c2 := 1) (A := B_) (B := A24) (news := [.int .i64 (ys_.getD 0 0), .slice A19 ((oneO ys_).2.1.length) c19, .string ((oneO ys_).2.2)]) (by kernel_rfl) (by kernel_rfl) (by kernel_rfl) (by kernel_rfl) (by kernel_rfl) rfl (Nat.succ_pos _) (by kernel_rfl) (.inl rfl) rfl rfl (by kernel_rfl) (At.of_row (i := 42) (r := ⟨65, 3, .slice A24 1 1, 1, [.int .i64 (ys_.getD 0 0), .slice A19 ((oneO ys_).2.1.length) c19, .string ((oneO ys_).2.2)]⟩) rfl rfl) (fun w hw e => absurd (rowSome (i := 42) (q := ⟨65, 3, .slice A24 1 1, 1, [.int .i64 (ys_.getD 0 0), .slice A19 ((oneO ys_).2.1.length) c19, .string ((oneO ys_).2.2)]⟩) rfl rfl (Nat.succ_pos _) w hw) (by rw [e]; decide)) (ones (by kernel_rfl)) (by omega) (by decide) ?_
              intro A25 c25 hc25
              refine X.tellR [30, 42] (R' := [(30, ⟨65, 3, .slice A25 (n_ + 1) c25, n_ + 1, cs_ ++ [.int .i64 (ys_.getD 0 0), .slice A19 ((oneO ys_).2.1.length) c19, .string ((oneO ys_).2.2)]⟩), (42, ⟨65, 3, .slice A24 1 1, 1, [.int .i64 (ys_.getD 0 0), .slice A19 ((oneO ys_).2.1.length) c19, .string ((oneO ys_).2.2)]⟩)]) rfl ?_
              refine X.run 6 [0, 4, 44, 45] [] (.ops (aA C58 [1, 1, 1, 0, 0, 0, 1, 0, 1, 1, 1, 1]) (oA C58 [1, 1, 1, 0, 0, 0, 1, 0, 1, 1, 1, 1] 2 :: lA C58 [1, 1, 1, 0, 0, 0, 1, 0, 1, 1, 1, 1] 3)) [.blk 1, .loop J2, .blk 0, .seq (cA C58 [1, 1, 1, 1])] ⟨48, [(0, .v (.slice Y_ ys_.length yc_)), (4, .v (.slice A25 (n_ + 1) c25)), (44, .v (.slice Y_ ys_.length yc_)), (45, .v (.int .i64 (oneN ys_)))], []⟩ (by kernel_rfl) ?_
              have hlo26 : (oneN ys_).toNat ≤ ys_.length := by omega
              have hhi26 : ys_.length ≤ ys_.length := by omega
              refine X.cut (t := 22) (e := 5) (sz := 1) (n := ys_.length) (c := yc_) (A := Y_) (x := .tmp 44) (l := (some (.tmp 45))) (h := none) (lv := (some (.int .i64 (oneN ys_)))) (hv := none) ((oneN ys_).toNat) ys_.length (by kernel_rfl) (by kernel_rfl) (by kernel_rfl) (by kernel_rfl) (by kernel_rfl) (by kernel_rfl) (by kernel_rfl) (⟨_, _, rfl, by omega, rfl⟩) (rfl) hlo26 (Nat.le_trans hhi26 hyc) ?_
              obtain ⟨A26, hA26⟩ : ∃ A_, cutA Y_ yc_ ((oneN ys_).toNat) 1 = A_ := ⟨_, rfl⟩
              obtain ⟨ys26, hys26⟩ : ∃ l_, (ys_.take ys_.length).drop ((oneN ys_).toNat) = l_ := ⟨_, rfl⟩
              have hr26 : rowAt (D.int .u8) G20 (cutA Y_ yc_ ((oneN ys_).toNat) 1) ((ys_.take ys_.length).drop ((oneN ys_).toNat)) := rowAt_cut hry hlo26 hhi26 hyc
              have hl26 : ys_.length - ((oneN ys_).toNat) = ys26.length := by rw [← hys26, List.length_drop, List.length_take]; omega
              have hc26 : ys26.length ≤ yc_ - ((oneN ys_).toNat) := by omega
              have hm26 : yc_ - ((oneN ys_).toNat) ≤ maxLen := Nat.le_trans (Nat.sub_le _ _) hym
              rw [hys26, show cutA Y_ yc_ ((oneN ys_).toNat) _ = A26 from hA26] at hr26
              rw [hA26, hl26]
              refine X.run 3 [0, 4] [] (.ex .normal) [.loop J2, .blk 0, .seq (cA C58 [1, 1, 1, 1])] ⟨48, [(0, .v (.slice A26 ys26.length (yc_ - ((oneN ys_).toNat)))), (4, .v (.slice A25 (n_ + 1) c25))], []⟩ (by kernel_rfl) ?_
              -- again (FTFFFF)
              refine X.tellR [30] (R' := [(30, ⟨65, 3, .slice A25 (n_ + 1) c25, n_ + 1, cs_ ++ [.int .i64 (ys_.getD 0 0), .slice A19 ((oneO ys_).2.1.length) c19, .string ((oneO ys_).2.2)]⟩)]) rfl ?_
              rw [List.take_of_length_le (Nat.le_refl _)] at hys26
              exact X.again (hJ2 _ _ _ _ ⟨A26, A25, yc_ - ((oneN ys_).toNat), c25, n_ + 1, ys26, l_ ++ [oneO ys_], cs_ ++ [.int .i64 (ys_.getD 0 0), .slice A19 ((oneO ys_).2.1.length) c19, .string ((oneO ys_).2.2)], rfl, rfl, ((hG2.trans hG19).trans hG20), ⟨hr26, hc26, hm26, by rw [← hys26, ← parse_step (by omega) (by assumption) (by assumption) (by assumption) (by assumption)]; exact hpa, repsD_snoc hcs (one_rep ⟨by omega, by omega⟩ (by omega) hle20 hmx20 hr20), by rw [List.length_append, ← hn]; rfl, by omega⟩, rfl⟩ (by omega))
    · -- slot 13: decide (((ys_.length : Nat) : Int) > 0) is False
      replace h3 : ¬ (((ys_.length : Nat) : Int) > 0) := of_decide_eq_false h3
      refine X.run 14 [2, 3] [] (.ex .ret) [] ⟨48, [(2, .v (.slice B_ n_ c_)), (3, .v (.int .i64 0))], []⟩ (by kernel_rfl) ?_
      refine X.scopeEnd (fun _ h => by cases h) ?_
      refine X.run 0 [2, 3] [] (.ex .ret) [] ⟨48, [(2, .v (.slice B_ n_ c_)), (3, .v (.int .i64 0))], []⟩ (by kernel_rfl) ?_
      refine doneG (.inl rfl) [.slice B_ n_ c_, .int .i64 0] [30] (by kernel_rfl) rfl rfl (hG2) ?_
      -- end 11 (FF)
      have hP_ : optP ns = (l_, 0) := (optP_of (by omega)).trans (hpa.symm.trans (parse_nil (by omega)))
      rw [hP_, hn]
      exact ⟨B_, c_, cs_, rfl, rfl, hcs⟩
end Go.Proofs.YtjgpdbkkpomhjaaX
