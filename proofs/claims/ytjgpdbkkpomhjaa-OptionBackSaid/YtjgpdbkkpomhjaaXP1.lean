/- option.one -/
import Derived.Test.YtjgpdbkkpomhjaaProg
import Derived.KernelRfl
import Derived.Test.YtjgpdbkkpomhjaaXPW
import Derived.Test.YtjgpdbkkpomhjaaXSC
namespace Go.Proofs.YtjgpdbkkpomhjaaX
open Go.RowKit
set_option linter.unusedVariables false
set_option linter.unusedSimpArgs false
set_option maxRecDepth 100000
theorem okP_lit {k : Int} {m : Nat} {z lo hi : Int} (hz : szk k = z) (h : z ≠ 0) (hl : lk2 k = lo) (hm : mk2 k = hi) : okP k m = decide ((m : Int) % z = 0 ∧ lo ≤ (m : Int) / z ∧ (m : Int) / z ≤ hi) := by
  subst hz hl hm
  exact okP_eq h
theorem numbers_okA {A : Option Addr} {b off : Nat} (hA : A = some ⟨b, off, none⟩) (cap z cnt : Nat) (ns : List Int) (hz : 0 < z) (hz4 : z ≤ 4) (hc20 : cnt ≤ 20) (hl : ns.length = cnt * z) (hcap : ns.length ≤ cap) (G : Mem) (hr : rowAt (D.int .u8) G A ns) :
    CallsG Try.prog 157 [.slice A ns.length cap, .int .i64 z] G (fun _ v rows => ∃ A c, v = .slice A cnt c ∧ rows = [⟨29, 1, .slice A cnt c, cnt, (numsOf ns z cnt).map (Value.int .u32)⟩]) := by
  subst hA
  exact numbers_ok b off cap z cnt ns hz hz4 hc20 hl hcap G hr

/-- leat/option.one -/
noncomputable def B120 : Code := bodyOf Try.f120
set_option maxHeartbeats 4000000 in
theorem one_ok (A : Option Addr) (c : Nat) (ns : List Int) (G : Mem) (hr : rowAt (D.int .u8) G A ns) (hle : ns.length ≤ c) (hmx : c ≤ maxLen) (h0 : 0 < ns.length) (h60 : ns.length ≤ 60) : CallsG Try.prog 120 [.slice A ns.length c] G (fun _ v rows => ∃ A' c', v = .tuple #[.agg #[.int .i64 (ns.getD 0 0), .slice A' (oneO ns).2.1.length c', .string (oneO ns).2.2], .int .i64 (oneN ns), .int .i64 (oneE ns)] ∧ rows = [⟨29, 1, .slice A' (oneO ns).2.1.length c', (oneO ns).2.1.length, (oneO ns).2.1.map (Value.int .u32)⟩]) := by
  simp only [maxLen] at hmx
  obtain ⟨b0, o0, hA0⟩ := rowAt_addr hr h0
  refine CallsG.enter Try.func120 rfl rfl ?_
  intro w
  refine X.run 10 [0, 2, 3, 4, 10] [2] (.ops (aA B120 [1, 0]) (oA B120 [1, 0] 1 :: lA B120 [1, 0] 2)) [.seq (cA B120 [1, 1])] ⟨88, [(0, .v (.slice A ns.length c)), (2, .own 2 0), (3, .v (.int .i64 0)), (4, .v (.int .i64 0)), (10, .v (.slice A ns.length c))], [(2, ⟨65, [.v (.int .i64 0), .v (.slice none 0 0), .v (.string ByteArray.empty)]⟩)]⟩ (by kernel_rfl) ?_
  have b1 : (0 : Int) ≤ 0 := by omega
  have b2 : 0 < ((ns.length : Nat) : Int) := by omega
  refine X.index (t := 22) (e := 5) (sz := 1) (A := A) (n := ns.length) (c := c) (ki := .i64) (i := 0) (x := .tmp 10) (ix := .const (.int .i64 0)) (by kernel_rfl) (by kernel_rfl) (by kernel_rfl) (by kernel_rfl) (by kernel_rfl) (by kernel_rfl) b1 b2 (fun _ _ => rowAt.so hr (by omega)) ?_
  obtain ⟨at3, lo3, hi3⟩ := At.int [] hr 0 (by omega)
  simp only [IntKind.lo, IntKind.hi] at lo3 hi3
  refine X.run 0 [0, 2, 3, 4, 11] [2] (.ops (aA B120 [1, 0]) (oA B120 [1, 0] 2 :: lA B120 [1, 0] 3)) [.seq (cA B120 [1, 1])] ⟨88, [(0, .v (.slice A ns.length c)), (2, .own 2 0), (3, .v (.int .i64 0)), (4, .v (.int .i64 0)), (11, .v (elt A (0 * 1)))], [(2, ⟨65, [.v (.int .i64 0), .v (.slice none 0 0), .v (.string ByteArray.empty)]⟩)]⟩ (by kernel_rfl) ?_
  refine X.load (t := 5) (A := A) (j := 0 * 1) (x := .tmp 11) (z := .int .u8 (ns.getD 0 0)) [.int .u8 (ns.getD 0 0)] (by kernel_rfl) (by kernel_rfl) at3 (by kernel_rfl) (by kernel_rfl) ?_
  refine X.run 1 [0, 2, 3, 4, 13] [2] (.ops (aA B120 [1, 0]) (oA B120 [1, 0] 4 :: lA B120 [1, 0] 5)) [.seq (cA B120 [1, 1])] ⟨88, [(0, .v (.slice A ns.length c)), (2, .own 2 0), (3, .v (.int .i64 0)), (4, .v (.int .i64 0)), (13, .v (.int .i64 (IntKind.i64.wrap (ns.getD 0 0))))], [(2, ⟨65, [.v (.int .i64 0), .v (.slice none 0 0), .v (.string ByteArray.empty)]⟩)]⟩ (by kernel_rfl) ?_
  refine X.known 13 (y := .v (.int .i64 (ns.getD 0 0))) rfl (congrArg (fun z_ => AV.v (.int .i64 z_)) (wi64 (by omega) (by omega))) ?_
  refine X.run 15 [0, 2, 3, 4, 5, 15] [2, 5] (.code (cA B120 [1, 1, 0, 0, 1])) [.blk 0, .seq (cA B120 [1, 1, 1])] ⟨88, [(0, .v (.slice A ns.length c)), (2, .own 2 0), (3, .v (.int .i64 0)), (4, .v (.int .i64 0)), (5, .own 5 0), (15, .v (.bool (decide (((ns.length : Nat) : Int) < 2))))], [(2, ⟨65, [.v (.int .i64 0), .v (.slice none 0 0), .v (.string ByteArray.empty)]⟩), (5, ⟨65, [.v (.int .i64 (ns.getD 0 0)), .v (.slice none 0 0), .v (.string ByteArray.empty)]⟩)]⟩ (by kernel_rfl) ?_
  refine X.split 15 rfl (fun h4 => ?_) (fun h4 => ?_)
  · -- slot 15: decide (((ns.length : Nat) : Int) < 2) is True
    replace h4 : ((ns.length : Nat) : Int) < 2 := of_decide_eq_true h4
    refine X.run 12 [2, 3, 4] [2] (.ex .ret) [] ⟨88, [(2, .own 2 0), (3, .v (.int .i64 0)), (4, .v (.int .i64 3))], [(2, ⟨65, [.v (.int .i64 (ns.getD 0 0)), .v (.slice none 0 0), .v (.string ByteArray.empty)]⟩)]⟩ (by kernel_rfl) ?_
    refine X.nilRow 900 29 1 rfl ?_
    refine doneG (.inl rfl) [.agg #[.int .i64 (ns.getD 0 0), .slice none 0 0, .string ByteArray.empty], .int .i64 0, .int .i64 3] [900] (by kernel_rfl) rfl rfl (Ge.refl _ _) ?_
    -- end 1 (T)
    have he_ : oneE ns = 3 := oneE_short (by omega)
    have hn_ : oneN ns = 0 := by unfold oneN; rw [if_neg (by rw [he_]; decide)]
    have ho_ : oneO ns = ((ns.getD 0 0), [], ⟨#[]⟩) := by unfold oneO; rw [if_neg (by rw [he_]; decide)]
    rw [he_, hn_, ho_]
    exact ⟨none, 0, rfl, rfl⟩
  · -- slot 15: decide (((ns.length : Nat) : Int) < 2) is False
    replace h4 : ¬ (((ns.length : Nat) : Int) < 2) := of_decide_eq_false h4
    refine X.run 4 [0, 2, 3, 4, 5, 21] [2, 5] (.ops (aA B120 [1, 1, 0, 0, 1, 1, 0]) (oA B120 [1, 1, 0, 0, 1, 1, 0] 1 :: lA B120 [1, 1, 0, 0, 1, 1, 0] 2)) [.seq (cA B120 [1, 1, 0, 0, 1, 1, 1]), .blk 0, .seq (cA B120 [1, 1, 1])] ⟨88, [(0, .v (.slice A ns.length c)), (2, .own 2 0), (3, .v (.int .i64 0)), (4, .v (.int .i64 0)), (5, .own 5 0), (21, .v (.slice A ns.length c))], [(2, ⟨65, [.v (.int .i64 0), .v (.slice none 0 0), .v (.string ByteArray.empty)]⟩), (5, ⟨65, [.v (.int .i64 (ns.getD 0 0)), .v (.slice none 0 0), .v (.string ByteArray.empty)]⟩)]⟩ (by kernel_rfl) ?_
    have b5 : (0 : Int) ≤ 1 := by omega
    have b6 : 1 < ((ns.length : Nat) : Int) := by omega
    refine X.index (t := 22) (e := 5) (sz := 1) (A := A) (n := ns.length) (c := c) (ki := .i64) (i := 1) (x := .tmp 21) (ix := .const (.int .i64 1)) (by kernel_rfl) (by kernel_rfl) (by kernel_rfl) (by kernel_rfl) (by kernel_rfl) (by kernel_rfl) b5 b6 (fun _ _ => rowAt.so hr (by omega)) ?_
    obtain ⟨at7, lo7, hi7⟩ := At.int [] hr 1 (by omega)
    simp only [IntKind.lo, IntKind.hi] at lo7 hi7
    refine X.run 0 [0, 2, 3, 4, 5, 22] [2, 5] (.ops (aA B120 [1, 1, 0, 0, 1, 1, 0]) (oA B120 [1, 1, 0, 0, 1, 1, 0] 2 :: lA B120 [1, 1, 0, 0, 1, 1, 0] 3)) [.seq (cA B120 [1, 1, 0, 0, 1, 1, 1]), .blk 0, .seq (cA B120 [1, 1, 1])] ⟨88, [(0, .v (.slice A ns.length c)), (2, .own 2 0), (3, .v (.int .i64 0)), (4, .v (.int .i64 0)), (5, .own 5 0), (22, .v (elt A (1 * 1)))], [(2, ⟨65, [.v (.int .i64 0), .v (.slice none 0 0), .v (.string ByteArray.empty)]⟩), (5, ⟨65, [.v (.int .i64 (ns.getD 0 0)), .v (.slice none 0 0), .v (.string ByteArray.empty)]⟩)]⟩ (by kernel_rfl) ?_
    refine X.load (t := 5) (A := A) (j := 1 * 1) (x := .tmp 22) (z := .int .u8 (ns.getD 1 0)) [.int .u8 (ns.getD 1 0)] (by kernel_rfl) (by kernel_rfl) at7 (by kernel_rfl) (by kernel_rfl) ?_
    refine X.run 4 [0, 2, 3, 4, 5, 20] [2, 5] (.code (cA B120 [1, 1, 0, 0, 1, 1, 1])) [.blk 0, .seq (cA B120 [1, 1, 1])] ⟨88, [(0, .v (.slice A ns.length c)), (2, .own 2 0), (3, .v (.int .i64 0)), (4, .v (.int .i64 0)), (5, .own 5 0), (20, .v (.bool (decide ((ns.getD 1 0) < 2))))], [(2, ⟨65, [.v (.int .i64 0), .v (.slice none 0 0), .v (.string ByteArray.empty)]⟩), (5, ⟨65, [.v (.int .i64 (ns.getD 0 0)), .v (.slice none 0 0), .v (.string ByteArray.empty)]⟩)]⟩ (by kernel_rfl) ?_
    refine X.split 20 rfl (fun h8 => ?_) (fun h8 => ?_)
    · -- slot 20: decide ((ns.getD 1 0) < 2) is True
      replace h8 : (ns.getD 1 0) < 2 := of_decide_eq_true h8
      refine X.run 12 [2, 3, 4] [2] (.ex .ret) [] ⟨88, [(2, .own 2 0), (3, .v (.int .i64 0)), (4, .v (.int .i64 5))], [(2, ⟨65, [.v (.int .i64 (ns.getD 0 0)), .v (.slice none 0 0), .v (.string ByteArray.empty)]⟩)]⟩ (by kernel_rfl) ?_
      refine X.nilRow 900 29 1 rfl ?_
      refine doneG (.inl rfl) [.agg #[.int .i64 (ns.getD 0 0), .slice none 0 0, .string ByteArray.empty], .int .i64 0, .int .i64 5] [900] (by kernel_rfl) rfl rfl (Ge.refl _ _) ?_
      -- end 2 (FT)
      have he_ : oneE ns = 5 := oneE_small (by omega) (by omega)
      have hn_ : oneN ns = 0 := by unfold oneN; rw [if_neg (by rw [he_]; decide)]
      have ho_ : oneO ns = ((ns.getD 0 0), [], ⟨#[]⟩) := by unfold oneO; rw [if_neg (by rw [he_]; decide)]
      rw [he_, hn_, ho_]
      exact ⟨none, 0, rfl, rfl⟩
    · -- slot 20: decide ((ns.getD 1 0) < 2) is False
      replace h8 : ¬ ((ns.getD 1 0) < 2) := of_decide_eq_false h8
      refine X.run 4 [0, 2, 3, 4, 5, 27] [2, 5] (.ops (aA B120 [1, 1, 0, 0, 1, 1, 1, 1, 0]) (oA B120 [1, 1, 0, 0, 1, 1, 1, 1, 0] 1 :: lA B120 [1, 1, 0, 0, 1, 1, 1, 1, 0] 2)) [.seq (cA B120 [1, 1, 0, 0, 1, 1, 1, 1, 1]), .blk 0, .seq (cA B120 [1, 1, 1])] ⟨88, [(0, .v (.slice A ns.length c)), (2, .own 2 0), (3, .v (.int .i64 0)), (4, .v (.int .i64 0)), (5, .own 5 0), (27, .v (.slice A ns.length c))], [(2, ⟨65, [.v (.int .i64 0), .v (.slice none 0 0), .v (.string ByteArray.empty)]⟩), (5, ⟨65, [.v (.int .i64 (ns.getD 0 0)), .v (.slice none 0 0), .v (.string ByteArray.empty)]⟩)]⟩ (by kernel_rfl) ?_
      have b9 : (0 : Int) ≤ 1 := by omega
      have b10 : 1 < ((ns.length : Nat) : Int) := by omega
      refine X.index (t := 22) (e := 5) (sz := 1) (A := A) (n := ns.length) (c := c) (ki := .i64) (i := 1) (x := .tmp 27) (ix := .const (.int .i64 1)) (by kernel_rfl) (by kernel_rfl) (by kernel_rfl) (by kernel_rfl) (by kernel_rfl) (by kernel_rfl) b9 b10 (fun _ _ => rowAt.so hr (by omega)) ?_
      obtain ⟨at11, lo11, hi11⟩ := At.int [] hr 1 (by omega)
      simp only [IntKind.lo, IntKind.hi] at lo11 hi11
      refine X.run 0 [0, 2, 3, 4, 5, 28] [2, 5] (.ops (aA B120 [1, 1, 0, 0, 1, 1, 1, 1, 0]) (oA B120 [1, 1, 0, 0, 1, 1, 1, 1, 0] 2 :: lA B120 [1, 1, 0, 0, 1, 1, 1, 1, 0] 3)) [.seq (cA B120 [1, 1, 0, 0, 1, 1, 1, 1, 1]), .blk 0, .seq (cA B120 [1, 1, 1])] ⟨88, [(0, .v (.slice A ns.length c)), (2, .own 2 0), (3, .v (.int .i64 0)), (4, .v (.int .i64 0)), (5, .own 5 0), (28, .v (elt A (1 * 1)))], [(2, ⟨65, [.v (.int .i64 0), .v (.slice none 0 0), .v (.string ByteArray.empty)]⟩), (5, ⟨65, [.v (.int .i64 (ns.getD 0 0)), .v (.slice none 0 0), .v (.string ByteArray.empty)]⟩)]⟩ (by kernel_rfl) ?_
      refine X.load (t := 5) (A := A) (j := 1 * 1) (x := .tmp 28) (z := .int .u8 (ns.getD 1 0)) [.int .u8 (ns.getD 1 0)] (by kernel_rfl) (by kernel_rfl) at11 (by kernel_rfl) (by kernel_rfl) ?_
      refine X.run 1 [0, 2, 3, 4, 5, 30] [2, 5] (.ops (aA B120 [1, 1, 0, 0, 1, 1, 1, 1, 0]) (oA B120 [1, 1, 0, 0, 1, 1, 1, 1, 0] 4 :: lA B120 [1, 1, 0, 0, 1, 1, 1, 1, 0] 5)) [.seq (cA B120 [1, 1, 0, 0, 1, 1, 1, 1, 1]), .blk 0, .seq (cA B120 [1, 1, 1])] ⟨88, [(0, .v (.slice A ns.length c)), (2, .own 2 0), (3, .v (.int .i64 0)), (4, .v (.int .i64 0)), (5, .own 5 0), (30, .v (.int .i64 (IntKind.i64.wrap (ns.getD 1 0))))], [(2, ⟨65, [.v (.int .i64 0), .v (.slice none 0 0), .v (.string ByteArray.empty)]⟩), (5, ⟨65, [.v (.int .i64 (ns.getD 0 0)), .v (.slice none 0 0), .v (.string ByteArray.empty)]⟩)]⟩ (by kernel_rfl) ?_
      refine X.known 30 (y := .v (.int .i64 (ns.getD 1 0))) rfl (congrArg (fun z_ => AV.v (.int .i64 z_)) (wi64 (by omega) (by omega))) ?_
      refine X.run 6 [0, 2, 3, 4, 5, 26] [2, 5] (.code (cA B120 [1, 1, 0, 0, 1, 1, 1, 1, 1])) [.blk 0, .seq (cA B120 [1, 1, 1])] ⟨88, [(0, .v (.slice A ns.length c)), (2, .own 2 0), (3, .v (.int .i64 0)), (4, .v (.int .i64 0)), (5, .own 5 0), (26, .v (.bool (decide (ns.getD 1 0 > ((ns.length : Nat) : Int)))))], [(2, ⟨65, [.v (.int .i64 0), .v (.slice none 0 0), .v (.string ByteArray.empty)]⟩), (5, ⟨65, [.v (.int .i64 (ns.getD 0 0)), .v (.slice none 0 0), .v (.string ByteArray.empty)]⟩)]⟩ (by kernel_rfl) ?_
      refine X.split 26 rfl (fun h12 => ?_) (fun h12 => ?_)
      · -- slot 26: decide (ns.getD 1 0 > ((ns.length : Nat) : Int)) is True
        replace h12 : ns.getD 1 0 > ((ns.length : Nat) : Int) := of_decide_eq_true h12
        refine X.run 12 [2, 3, 4] [2] (.ex .ret) [] ⟨88, [(2, .own 2 0), (3, .v (.int .i64 0)), (4, .v (.int .i64 3))], [(2, ⟨65, [.v (.int .i64 (ns.getD 0 0)), .v (.slice none 0 0), .v (.string ByteArray.empty)]⟩)]⟩ (by kernel_rfl) ?_
        refine X.nilRow 900 29 1 rfl ?_
        refine doneG (.inl rfl) [.agg #[.int .i64 (ns.getD 0 0), .slice none 0 0, .string ByteArray.empty], .int .i64 0, .int .i64 3] [900] (by kernel_rfl) rfl rfl (Ge.refl _ _) ?_
        -- end 3 (FFT)
        have he_ : oneE ns = 3 := oneE_far (by omega) (by omega) (by omega)
        have hn_ : oneN ns = 0 := by unfold oneN; rw [if_neg (by rw [he_]; decide)]
        have ho_ : oneO ns = ((ns.getD 0 0), [], ⟨#[]⟩) := by unfold oneO; rw [if_neg (by rw [he_]; decide)]
        rw [he_, hn_, ho_]
        exact ⟨none, 0, rfl, rfl⟩
      · -- slot 26: decide (ns.getD 1 0 > ((ns.length : Nat) : Int)) is False
        replace h12 : ¬ (ns.getD 1 0 > ((ns.length : Nat) : Int)) := of_decide_eq_false h12
        refine X.run 8 [0, 2, 3, 4, 5, 35, 36] [2, 5] (.ops (aA B120 [1, 1, 1, 0]) (oA B120 [1, 1, 1, 0] 2 :: lA B120 [1, 1, 1, 0] 3)) [.seq (cA B120 [1, 1, 1, 1])] ⟨88, [(0, .v (.slice A ns.length c)), (2, .own 2 0), (3, .v (.int .i64 0)), (4, .v (.int .i64 0)), (5, .own 5 0), (35, .v (.slice A ns.length c)), (36, .v (.slice A ns.length c))], [(2, ⟨65, [.v (.int .i64 0), .v (.slice none 0 0), .v (.string ByteArray.empty)]⟩), (5, ⟨65, [.v (.int .i64 (ns.getD 0 0)), .v (.slice none 0 0), .v (.string ByteArray.empty)]⟩)]⟩ (by kernel_rfl) ?_
        have b13 : (0 : Int) ≤ 1 := by omega
        have b14 : 1 < ((ns.length : Nat) : Int) := by omega
        refine X.index (t := 22) (e := 5) (sz := 1) (A := A) (n := ns.length) (c := c) (ki := .i64) (i := 1) (x := .tmp 36) (ix := .const (.int .i64 1)) (by kernel_rfl) (by kernel_rfl) (by kernel_rfl) (by kernel_rfl) (by kernel_rfl) (by kernel_rfl) b13 b14 (fun _ _ => rowAt.so hr (by omega)) ?_
        obtain ⟨at15, lo15, hi15⟩ := At.int [] hr 1 (by omega)
        simp only [IntKind.lo, IntKind.hi] at lo15 hi15
        refine X.run 0 [0, 2, 3, 4, 5, 35, 37] [2, 5] (.ops (aA B120 [1, 1, 1, 0]) (oA B120 [1, 1, 1, 0] 3 :: lA B120 [1, 1, 1, 0] 4)) [.seq (cA B120 [1, 1, 1, 1])] ⟨88, [(0, .v (.slice A ns.length c)), (2, .own 2 0), (3, .v (.int .i64 0)), (4, .v (.int .i64 0)), (5, .own 5 0), (35, .v (.slice A ns.length c)), (37, .v (elt A (1 * 1)))], [(2, ⟨65, [.v (.int .i64 0), .v (.slice none 0 0), .v (.string ByteArray.empty)]⟩), (5, ⟨65, [.v (.int .i64 (ns.getD 0 0)), .v (.slice none 0 0), .v (.string ByteArray.empty)]⟩)]⟩ (by kernel_rfl) ?_
        refine X.load (t := 5) (A := A) (j := 1 * 1) (x := .tmp 37) (z := .int .u8 (ns.getD 1 0)) [.int .u8 (ns.getD 1 0)] (by kernel_rfl) (by kernel_rfl) at15 (by kernel_rfl) (by kernel_rfl) ?_
        refine X.run 0 [0, 2, 3, 4, 5, 35, 38] [2, 5] (.ops (aA B120 [1, 1, 1, 0]) (oA B120 [1, 1, 1, 0] 4 :: lA B120 [1, 1, 1, 0] 5)) [.seq (cA B120 [1, 1, 1, 1])] ⟨88, [(0, .v (.slice A ns.length c)), (2, .own 2 0), (3, .v (.int .i64 0)), (4, .v (.int .i64 0)), (5, .own 5 0), (35, .v (.slice A ns.length c)), (38, .v (.int .u8 (ns.getD 1 0)))], [(2, ⟨65, [.v (.int .i64 0), .v (.slice none 0 0), .v (.string ByteArray.empty)]⟩), (5, ⟨65, [.v (.int .i64 (ns.getD 0 0)), .v (.slice none 0 0), .v (.string ByteArray.empty)]⟩)]⟩ (by kernel_rfl) ?_
        have hlo16 : 2 ≤ ((ns.getD 1 0)).toNat := by omega
        have hhi16 : ((ns.getD 1 0)).toNat ≤ ns.length := by omega
        refine X.cut (t := 22) (e := 5) (sz := 1) (n := ns.length) (c := c) (A := A) (x := .tmp 35) (l := (some (.const (.int .i64 2)))) (h := (some (.tmp 38))) (lv := (some (.int .i64 2))) (hv := (some (.int .u8 (ns.getD 1 0)))) 2 (((ns.getD 1 0)).toNat) (by kernel_rfl) (by kernel_rfl) (by kernel_rfl) (by kernel_rfl) (by kernel_rfl) (by kernel_rfl) (by kernel_rfl) (⟨_, _, rfl, by omega, rfl⟩) (⟨_, _, rfl, by omega, rfl⟩) hlo16 (Nat.le_trans hhi16 hle) ?_
        obtain ⟨A16, hA16⟩ : ∃ A_, cutA A c 2 1 = A_ := ⟨_, rfl⟩
        obtain ⟨ys16, hys16⟩ : ∃ l_, (ns.take (((ns.getD 1 0)).toNat)).drop 2 = l_ := ⟨_, rfl⟩
        have hr16 : rowAt (D.int .u8) G (cutA A c 2 1) ((ns.take (((ns.getD 1 0)).toNat)).drop 2) := rowAt_cut hr hlo16 hhi16 hle
        have hl16 : (((ns.getD 1 0)).toNat) - 2 = ys16.length := by rw [← hys16, List.length_drop, List.length_take]; omega
        have hc16 : ys16.length ≤ c - 2 := by omega
        have hm16 : c - 2 ≤ maxLen := Nat.le_trans (Nat.sub_le _ _) hmx
        rw [hys16, show cutA A c 2 _ = A16 from hA16] at hr16
        rw [hA16, hl16]
        refine X.run 7 [0, 2, 3, 4, 5, 6, 42] [2, 5] (.ops (aA B120 [1, 1, 1, 1, 0]) (oA B120 [1, 1, 1, 1, 0] 2 :: lA B120 [1, 1, 1, 1, 0] 3)) [.seq (cA B120 [1, 1, 1, 1, 1])] ⟨88, [(0, .v (.slice A ns.length c)), (2, .own 2 0), (3, .v (.int .i64 0)), (4, .v (.int .i64 0)), (5, .own 5 0), (6, .v (.slice A16 ys16.length (c - 2))), (42, .v (.int .i64 (ns.getD 0 0)))], [(2, ⟨65, [.v (.int .i64 0), .v (.slice none 0 0), .v (.string ByteArray.empty)]⟩), (5, ⟨65, [.v (.int .i64 (ns.getD 0 0)), .v (.slice none 0 0), .v (.string ByteArray.empty)]⟩)]⟩ (by kernel_rfl) ?_
        refine X.inline (f := 108) (l := [.v (.int .i64 (ns.getD 0 0))]) (fn := Try.f108) (c := B108) (by kernel_rfl) (by kernel_rfl) Try.func108 (by kernel_rfl) ?_
        intro Q17 M17 hM17 hQ17 fin17
        refine X.run 20 [2, 3, 4, 5, 6] [1002, 1005] (.code (cA B108 [1, 0, 1, 0, 1])) [.blk 0, .seq (cA B108 [1, 1])] ⟨13, [(2, .v (.int .i64 0)), (3, .v (.int .i64 0)), (4, .v (.int .i64 0)), (5, .v (.int .i64 (ns.getD 0 0))), (6, .v (.bool ((ns.getD 0 0) == 2)))], [(1002, ⟨65, [.v (.int .i64 0), .v (.slice none 0 0), .v (.string ByteArray.empty)]⟩), (1005, ⟨65, [.v (.int .i64 (ns.getD 0 0)), .v (.slice none 0 0), .v (.string ByteArray.empty)]⟩)]⟩ (by kernel_rfl) ?_
        refine X.split 6 rfl (fun h18 => ?_) (fun h18 => ?_)
        · -- slot 6: (ns.getD 0 0) == 2 is True
          replace h18 : (ns.getD 0 0) = 2 := by simpa using h18
          refine X.run 11 [2, 3, 4] [1002, 1005] (.ex .ret) [] ⟨13, [(2, .v (.int .i64 2)), (3, .v (.int .i64 1)), (4, .v (.int .i64 1))], [(1002, ⟨65, [.v (.int .i64 0), .v (.slice none 0 0), .v (.string ByteArray.empty)]⟩), (1005, ⟨65, [.v (.int .i64 (ns.getD 0 0)), .v (.slice none 0 0), .v (.string ByteArray.empty)]⟩)]⟩ (by kernel_rfl) ?_
          refine fin17 _ _ _ _ [.int .i64 2, .int .i64 1, .int .i64 1] [(2, ⟨65, [.v (.int .i64 0), .v (.slice none 0 0), .v (.string ByteArray.empty)]⟩), (5, ⟨65, [.v (.int .i64 (ns.getD 0 0)), .v (.slice none 0 0), .v (.string ByteArray.empty)]⟩)] (.inl rfl) (by kernel_rfl) (by kernel_rfl) ?_
          refine X.run 26 [0, 2, 3, 4, 5, 6, 7, 8, 9, 60] [2, 5] (.ops (aA B120 [1, 1, 1, 1, 1, 1, 0, 0]) (oA B120 [1, 1, 1, 1, 1, 1, 0, 0] 4 :: lA B120 [1, 1, 1, 1, 1, 1, 0, 0] 5)) [.seq (cA B120 [1, 1, 1, 1, 1, 1, 0, 1]), .seq (cA B120 [1, 1, 1, 1, 1, 1, 1])] ⟨88, [(0, .v (.slice A ns.length c)), (2, .own 2 0), (3, .v (.int .i64 0)), (4, .v (.int .i64 0)), (5, .own 5 0), (6, .v (.slice A16 ys16.length (c - 2))), (7, .v (.int .i64 2)), (8, .v (.int .i64 1)), (9, .v (.int .i64 1)), (60, .v (.int .i64 (Int.tmod ((ys16.length : Nat) : Int) 2)))], [(2, ⟨65, [.v (.int .i64 0), .v (.slice none 0 0), .v (.string ByteArray.empty)]⟩), (5, ⟨65, [.v (.int .i64 (ns.getD 0 0)), .v (.slice none 0 0), .v (.string ByteArray.empty)]⟩)]⟩ (by kernel_rfl) ?_
          refine X.known 60 (y := .v (.int .i64 (((ys16.length : Nat) : Int) % 2))) rfl (congrArg (fun z_ => AV.v (.int .i64 z_)) (Int.tmod_eq_emod_of_nonneg (by omega))) ?_
          refine X.run 2 [0, 2, 3, 4, 5, 6, 7, 8, 9, 62] [2, 5] (.ops (aA B120 [1, 1, 1, 1, 1, 1, 0, 0]) (oA B120 [1, 1, 1, 1, 1, 1, 0, 0] 6 :: lA B120 [1, 1, 1, 1, 1, 1, 0, 0] 7)) [.seq (cA B120 [1, 1, 1, 1, 1, 1, 0, 1]), .seq (cA B120 [1, 1, 1, 1, 1, 1, 1])] ⟨88, [(0, .v (.slice A ns.length c)), (2, .own 2 0), (3, .v (.int .i64 0)), (4, .v (.int .i64 0)), (5, .own 5 0), (6, .v (.slice A16 ys16.length (c - 2))), (7, .v (.int .i64 2)), (8, .v (.int .i64 1)), (9, .v (.int .i64 1)), (62, .v (.bool ((((ys16.length : Nat) : Int) % 2) != 0)))], [(2, ⟨65, [.v (.int .i64 0), .v (.slice none 0 0), .v (.string ByteArray.empty)]⟩), (5, ⟨65, [.v (.int .i64 (ns.getD 0 0)), .v (.slice none 0 0), .v (.string ByteArray.empty)]⟩)]⟩ (by kernel_rfl) ?_
          refine X.split 62 rfl (fun h19 => ?_) (fun h19 => ?_)
          · -- slot 62: (((ys16.length : Nat) : Int) % 2) != 0 is True
            replace h19 : (((ys16.length : Nat) : Int) % 2) ≠ 0 := by simpa using h19
            refine X.run 28 [2, 3, 4] [2] (.ex .ret) [] ⟨88, [(2, .own 2 0), (3, .v (.int .i64 0)), (4, .v (.int .i64 5))], [(2, ⟨65, [.v (.int .i64 (ns.getD 0 0)), .v (.slice none 0 0), .v (.string ByteArray.empty)]⟩)]⟩ (by kernel_rfl) ?_
            refine X.nilRow 900 29 1 rfl ?_
            refine doneG (.inl rfl) [.agg #[.int .i64 (ns.getD 0 0), .slice none 0 0, .string ByteArray.empty], .int .i64 0, .int .i64 5] [900] (by kernel_rfl) rfl rfl (Ge.refl _ _) ?_
            -- end 5 (FFFTT)
            have hsz_ : szk (ns.getD 0 0) = 2 := by rw [show (ns.getD 0 0) = 2 by assumption]; rfl
            have hyl_ : ys16.length = (ns.getD 1 0).toNat - 2 := by rw [← hys16, List.length_drop, List.length_take]; omega
            have hok_ := okP_lit (m := (ns.getD 1 0).toNat - 2) hsz_ (by decide) (show lk2 (ns.getD 0 0) = 1 by rw [show (ns.getD 0 0) = 2 by assumption]; rfl) (show mk2 (ns.getD 0 0) = 1 by rw [show (ns.getD 0 0) = 2 by assumption]; rfl)
            rw [decide_eq_false (by omega)] at hok_
            have he_ : oneE ns = 5 := oneE_form (by omega) (by omega) (by omega) hok_
            have hn_ : oneN ns = 0 := by unfold oneN; rw [if_neg (by rw [he_]; decide)]
            have ho_ : oneO ns = ((ns.getD 0 0), [], ⟨#[]⟩) := by unfold oneO; rw [if_neg (by rw [he_]; decide)]
            rw [he_, hn_, ho_]
            exact ⟨none, 0, rfl, rfl⟩
          · -- slot 62: (((ys16.length : Nat) : Int) % 2) != 0 is False
            replace h19 : (((ys16.length : Nat) : Int) % 2) = 0 := by simpa using h19
            refine X.run 4 [0, 2, 3, 4, 5, 6, 7, 8, 9, 62, 66] [2, 5] (.ops (aA B120 [1, 1, 1, 1, 1, 1, 0, 0]) (oA B120 [1, 1, 1, 1, 1, 1, 0, 0] 10 :: lA B120 [1, 1, 1, 1, 1, 1, 0, 0] 11)) [.seq (cA B120 [1, 1, 1, 1, 1, 1, 0, 1]), .seq (cA B120 [1, 1, 1, 1, 1, 1, 1])] ⟨88, [(0, .v (.slice A ns.length c)), (2, .own 2 0), (3, .v (.int .i64 0)), (4, .v (.int .i64 0)), (5, .own 5 0), (6, .v (.slice A16 ys16.length (c - 2))), (7, .v (.int .i64 2)), (8, .v (.int .i64 1)), (9, .v (.int .i64 1)), (62, .v (.bool false)), (66, .v (.int .i64 (IntKind.i64.wrap (Int.tdiv ((ys16.length : Nat) : Int) 2))))], [(2, ⟨65, [.v (.int .i64 0), .v (.slice none 0 0), .v (.string ByteArray.empty)]⟩), (5, ⟨65, [.v (.int .i64 (ns.getD 0 0)), .v (.slice none 0 0), .v (.string ByteArray.empty)]⟩)]⟩ (by kernel_rfl) ?_
            refine X.known 66 (y := .v (.int .i64 (((ys16.length : Nat) : Int) / 2))) rfl (congrArg (fun z_ => AV.v (.int .i64 z_)) (wdiv_i64 (by omega) (by omega) (by omega))) ?_
            refine X.run 4 [0, 2, 3, 4, 5, 6, 7, 9, 70] [2, 5] (.ops (aA B120 [1, 1, 1, 1, 1, 1, 0, 0]) (oA B120 [1, 1, 1, 1, 1, 1, 0, 0] 14 :: lA B120 [1, 1, 1, 1, 1, 1, 0, 0] 15)) [.seq (cA B120 [1, 1, 1, 1, 1, 1, 0, 1]), .seq (cA B120 [1, 1, 1, 1, 1, 1, 1])] ⟨88, [(0, .v (.slice A ns.length c)), (2, .own 2 0), (3, .v (.int .i64 0)), (4, .v (.int .i64 0)), (5, .own 5 0), (6, .v (.slice A16 ys16.length (c - 2))), (7, .v (.int .i64 2)), (9, .v (.int .i64 1)), (70, .v (.bool (decide (((ys16.length : Nat) : Int) / 2 < 1))))], [(2, ⟨65, [.v (.int .i64 0), .v (.slice none 0 0), .v (.string ByteArray.empty)]⟩), (5, ⟨65, [.v (.int .i64 (ns.getD 0 0)), .v (.slice none 0 0), .v (.string ByteArray.empty)]⟩)]⟩ (by kernel_rfl) ?_
            refine X.split 70 rfl (fun h20 => ?_) (fun h20 => ?_)
            · -- slot 70: decide (((ys16.length : Nat) : Int) / 2 < 1) is True
              replace h20 : ((ys16.length : Nat) : Int) / 2 < 1 := of_decide_eq_true h20
              refine X.run 20 [2, 3, 4] [2] (.ex .ret) [] ⟨88, [(2, .own 2 0), (3, .v (.int .i64 0)), (4, .v (.int .i64 5))], [(2, ⟨65, [.v (.int .i64 (ns.getD 0 0)), .v (.slice none 0 0), .v (.string ByteArray.empty)]⟩)]⟩ (by kernel_rfl) ?_
              refine X.nilRow 900 29 1 rfl ?_
              refine doneG (.inl rfl) [.agg #[.int .i64 (ns.getD 0 0), .slice none 0 0, .string ByteArray.empty], .int .i64 0, .int .i64 5] [900] (by kernel_rfl) rfl rfl (Ge.refl _ _) ?_
              -- end 6 (FFFTFT)
              have hsz_ : szk (ns.getD 0 0) = 2 := by rw [show (ns.getD 0 0) = 2 by assumption]; rfl
              have hyl_ : ys16.length = (ns.getD 1 0).toNat - 2 := by rw [← hys16, List.length_drop, List.length_take]; omega
              have hok_ := okP_lit (m := (ns.getD 1 0).toNat - 2) hsz_ (by decide) (show lk2 (ns.getD 0 0) = 1 by rw [show (ns.getD 0 0) = 2 by assumption]; rfl) (show mk2 (ns.getD 0 0) = 1 by rw [show (ns.getD 0 0) = 2 by assumption]; rfl)
              rw [decide_eq_false (by omega)] at hok_
              have he_ : oneE ns = 5 := oneE_form (by omega) (by omega) (by omega) hok_
              have hn_ : oneN ns = 0 := by unfold oneN; rw [if_neg (by rw [he_]; decide)]
              have ho_ : oneO ns = ((ns.getD 0 0), [], ⟨#[]⟩) := by unfold oneO; rw [if_neg (by rw [he_]; decide)]
              rw [he_, hn_, ho_]
              exact ⟨none, 0, rfl, rfl⟩
            · -- slot 70: decide (((ys16.length : Nat) : Int) / 2 < 1) is False
              replace h20 : ¬ (((ys16.length : Nat) : Int) / 2 < 1) := of_decide_eq_false h20
              refine X.run 4 [0, 2, 3, 4, 5, 6, 7, 9, 70, 74] [2, 5] (.ops (aA B120 [1, 1, 1, 1, 1, 1, 0, 0]) (oA B120 [1, 1, 1, 1, 1, 1, 0, 0] 18 :: lA B120 [1, 1, 1, 1, 1, 1, 0, 0] 19)) [.seq (cA B120 [1, 1, 1, 1, 1, 1, 0, 1]), .seq (cA B120 [1, 1, 1, 1, 1, 1, 1])] ⟨88, [(0, .v (.slice A ns.length c)), (2, .own 2 0), (3, .v (.int .i64 0)), (4, .v (.int .i64 0)), (5, .own 5 0), (6, .v (.slice A16 ys16.length (c - 2))), (7, .v (.int .i64 2)), (9, .v (.int .i64 1)), (70, .v (.bool false)), (74, .v (.int .i64 (IntKind.i64.wrap (Int.tdiv ((ys16.length : Nat) : Int) 2))))], [(2, ⟨65, [.v (.int .i64 0), .v (.slice none 0 0), .v (.string ByteArray.empty)]⟩), (5, ⟨65, [.v (.int .i64 (ns.getD 0 0)), .v (.slice none 0 0), .v (.string ByteArray.empty)]⟩)]⟩ (by kernel_rfl) ?_
              refine X.known 74 (y := .v (.int .i64 (((ys16.length : Nat) : Int) / 2))) rfl (congrArg (fun z_ => AV.v (.int .i64 z_)) (wdiv_i64 (by omega) (by omega) (by omega))) ?_
              refine X.run 5 [0, 2, 3, 4, 5, 6, 7, 77] [2, 5] (.code (cA B120 [1, 1, 1, 1, 1, 1, 0, 1])) [.seq (cA B120 [1, 1, 1, 1, 1, 1, 1])] ⟨88, [(0, .v (.slice A ns.length c)), (2, .own 2 0), (3, .v (.int .i64 0)), (4, .v (.int .i64 0)), (5, .own 5 0), (6, .v (.slice A16 ys16.length (c - 2))), (7, .v (.int .i64 2)), (77, .v (.bool (decide (((ys16.length : Nat) : Int) / 2 > 1))))], [(2, ⟨65, [.v (.int .i64 0), .v (.slice none 0 0), .v (.string ByteArray.empty)]⟩), (5, ⟨65, [.v (.int .i64 (ns.getD 0 0)), .v (.slice none 0 0), .v (.string ByteArray.empty)]⟩)]⟩ (by kernel_rfl) ?_
              refine X.split 77 rfl (fun h21 => ?_) (fun h21 => ?_)
              · -- slot 77: decide (((ys16.length : Nat) : Int) / 2 > 1) is True
                replace h21 : ((ys16.length : Nat) : Int) / 2 > 1 := of_decide_eq_true h21
                refine X.run 11 [2, 3, 4] [2] (.ex .ret) [] ⟨88, [(2, .own 2 0), (3, .v (.int .i64 0)), (4, .v (.int .i64 5))], [(2, ⟨65, [.v (.int .i64 (ns.getD 0 0)), .v (.slice none 0 0), .v (.string ByteArray.empty)]⟩)]⟩ (by kernel_rfl) ?_
                refine X.nilRow 900 29 1 rfl ?_
                refine doneG (.inl rfl) [.agg #[.int .i64 (ns.getD 0 0), .slice none 0 0, .string ByteArray.empty], .int .i64 0, .int .i64 5] [900] (by kernel_rfl) rfl rfl (Ge.refl _ _) ?_
                -- end 7 (FFFTFFT)
                have hsz_ : szk (ns.getD 0 0) = 2 := by rw [show (ns.getD 0 0) = 2 by assumption]; rfl
                have hyl_ : ys16.length = (ns.getD 1 0).toNat - 2 := by rw [← hys16, List.length_drop, List.length_take]; omega
                have hok_ := okP_lit (m := (ns.getD 1 0).toNat - 2) hsz_ (by decide) (show lk2 (ns.getD 0 0) = 1 by rw [show (ns.getD 0 0) = 2 by assumption]; rfl) (show mk2 (ns.getD 0 0) = 1 by rw [show (ns.getD 0 0) = 2 by assumption]; rfl)
                rw [decide_eq_false (by omega)] at hok_
                have he_ : oneE ns = 5 := oneE_form (by omega) (by omega) (by omega) hok_
                have hn_ : oneN ns = 0 := by unfold oneN; rw [if_neg (by rw [he_]; decide)]
                have ho_ : oneO ns = ((ns.getD 0 0), [], ⟨#[]⟩) := by unfold oneO; rw [if_neg (by rw [he_]; decide)]
                rw [he_, hn_, ho_]
                exact ⟨none, 0, rfl, rfl⟩
              · -- slot 77: decide (((ys16.length : Nat) : Int) / 2 > 1) is False
                replace h21 : ¬ (((ys16.length : Nat) : Int) / 2 > 1) := of_decide_eq_false h21
                refine X.run 7 [0, 2, 3, 4, 5, 79, 80] [2, 5] (.ops (aA B120 [1, 1, 1, 1, 1, 1, 1, 0]) (oA B120 [1, 1, 1, 1, 1, 1, 1, 0] 2 :: lA B120 [1, 1, 1, 1, 1, 1, 1, 0] 3)) [.seq (cA B120 [1, 1, 1, 1, 1, 1, 1, 1])] ⟨88, [(0, .v (.slice A ns.length c)), (2, .own 2 0), (3, .v (.int .i64 0)), (4, .v (.int .i64 0)), (5, .own 5 0), (79, .v (.slice A16 ys16.length (c - 2))), (80, .v (.int .i64 2))], [(2, ⟨65, [.v (.int .i64 0), .v (.slice none 0 0), .v (.string ByteArray.empty)]⟩), (5, ⟨65, [.v (.int .i64 (ns.getD 0 0)), .v (.slice none 0 0), .v (.string ByteArray.empty)]⟩)]⟩ (by kernel_rfl) ?_
                obtain ⟨nb22, no22, hnA22⟩ := cutA_addr (c := c) (lo := 2) (sz := 1) hA0
                rw [hA16] at hnA22
                refine X.callG (f := 157) (l := [.v (.slice A16 ys16.length (c - 2)), .v (.int .i64 2)]) [.slice A16 ys16.length (c - 2), .int .i64 2] 40 (by kernel_rfl) (by kernel_rfl) (by kernel_rfl) (numbers_okA hnA22 (c - 2) 2 (ys16.length / 2) ys16 (by decide) (by decide) (by omega) (by omega) (by omega) _ hr16) ?_
                rintro v22 G22 rows22 hG22 ⟨A22, c22, rfl, rfl⟩
                replace hr := hr.mono hG22.le
                replace hr16 := hr16.mono hG22.le
                refine X.asR (R' := [(40, ⟨29, 1, .slice A22 (ys16.length / 2) c22, (ys16.length / 2), (numsOf ys16 2 (ys16.length / 2)).map (Value.int .u32)⟩)]) rfl ?_
                refine X.run 5 [0, 2, 3, 4, 5] [2, 5] (.code (cA B120 [1, 1, 1, 1, 1, 1, 1, 1, 0])) [.seq (cA B120 [1, 1, 1, 1, 1, 1, 1, 1, 1])] ⟨88, [(0, .v (.slice A ns.length c)), (2, .own 2 0), (3, .v (.int .i64 0)), (4, .v (.int .i64 0)), (5, .own 5 0)], [(2, ⟨65, [.v (.int .i64 0), .v (.slice none 0 0), .v (.string ByteArray.empty)]⟩), (5, ⟨65, [.v (.int .i64 (ns.getD 0 0)), .v (.slice A22 (ys16.length / 2) c22), .v (.string ByteArray.empty)]⟩)]⟩ (by kernel_rfl) ?_
                have hr_d23 := hr
                have hr16_d23 := hr16
                refine XD.open (id := 16) (arr := aA B120 [1, 1, 1, 1, 1, 1, 1, 1, 0]) 8 [⟨some 5, 5, 65, [.v (.int .i64 (ns.getD 0 0)), .v (.slice A22 (ys16.length / 2) c22), .v (.string ByteArray.empty)]⟩] [] [] (by kernel_rfl) (by kernel_rfl) (by kernel_rfl) (by kernel_rfl) (by kernel_rfl) ⟨⟨fun _ h => (by cases h; rfl), rfl⟩, trivial⟩ (by intro p hp hn; simp only [List.mem_cons, List.not_mem_nil, or_false] at hp; rcases hp with rfl <;> first | (cases hn; done) | exact absurd _ (Nat.le_of_ble_eq_true rfl)) rfl (fun ρ0 => ?_)
                refine XD.take (i := 0) (l' := (lb 8 1)) (oA B120 [1, 1, 1, 1, 1, 1, 1, 1, 0] 0) (.v (.agg #[.int .i64 (ns.getD 0 0), .slice A22 (ys16.length / 2) c22, .string ByteArray.empty])) QOk.ctxG (by kernel_rfl) (by kernel_rfl) (by kernel_rfl) (by kernel_rfl) (by kernel_rfl) ?_
                refine XD.take (i := 1) (l' := (lb 8 3)) (oA B120 [1, 1, 1, 1, 1, 1, 1, 1, 0] 1) (.v (.slice A ns.length c)) QOk.ctxG (by kernel_rfl) (by kernel_rfl) (by kernel_rfl) (by kernel_rfl) (by kernel_rfl) ?_
                have b24 : (0 : Int) ≤ 1 := by omega
                have b25 : 1 < ((ns.length : Nat) : Int) := by omega
                obtain ⟨at26, lo26, hi26⟩ := At.int [] hr_d23 1 (by omega)
                simp only [IntKind.lo, IntKind.hi] at lo26 hi26
                refine XD.index (i := 2) (l' := (lb 8 7)) (o := (oA B120 [1, 1, 1, 1, 1, 1, 1, 1, 0] 2)) (t := 22) (e := 5) (sz := 1) (A := A) (n := ns.length) (c := c) (ki := .i64) (j := 1) (x := .tmp 84) (ix := .const (.int .i64 1)) QOk.ctxG (by kernel_rfl) (by kernel_rfl) (by kernel_rfl) (by kernel_rfl) (by kernel_rfl) (by kernel_rfl) (by kernel_rfl) (by kernel_rfl) b24 b25 (fun _ _ => rowAt.so hr_d23 (by omega)) (by kernel_rfl) ?_
                refine XD.load (i := 3) (l' := (lb 8 15)) (o := (oA B120 [1, 1, 1, 1, 1, 1, 1, 1, 0] 3)) (t := 5) (A := A) (j := 1 * 1) (x := .tmp 85) (z := .int .u8 (ns.getD 1 0)) [.int .u8 (ns.getD 1 0)] QOk.ctxG (by kernel_rfl) (by kernel_rfl) (by kernel_rfl) (by kernel_rfl) (by kernel_rfl) at26 (by kernel_rfl) (by kernel_rfl) ?_
                refine XD.take (i := 4) (l' := (lb 8 31)) (oA B120 [1, 1, 1, 1, 1, 1, 1, 1, 0] 4) (.v (.int .i64 (IntKind.i64.wrap (ns.getD 1 0)))) QOk.ctxG (by kernel_rfl) (by kernel_rfl) (by kernel_rfl) (by kernel_rfl) (by kernel_rfl) ?_
                refine XD.known 87 (y := .v (.int .i64 (ns.getD 1 0))) rfl (congrArg (fun z_ => AV.v (.int .i64 z_)) (wi64 (by omega) (by omega))) ?_
                refine XD.norm [2, 3, 4, 5, 83, 87] [2, 5] ⟨88, [(2, .own 2 0), (3, .v (.int .i64 0)), (4, .v (.int .i64 0)), (5, .own 5 0), (83, .v (.agg #[.int .i64 (ns.getD 0 0), .slice A22 (ys16.length / 2) c22, .string ByteArray.empty])), (87, .v (.int .i64 (ns.getD 1 0)))], [(2, ⟨65, [.v (.int .i64 0), .v (.slice none 0 0), .v (.string ByteArray.empty)]⟩), (5, ⟨65, [.v (.int .i64 (ns.getD 0 0)), .v (.slice A22 (ys16.length / 2) c22), .v (.string ByteArray.empty)]⟩)]⟩ (by kernel_rfl) ⟨⟨fun _ h => (by cases h; rfl), rfl⟩, trivial⟩ ?_
                refine XD.one (i := 5) (l' := (lb 8 63)) (oA B120 [1, 1, 1, 1, 1, 1, 1, 1, 0] 5) (by kernel_rfl) (by kernel_rfl) (by kernel_rfl) ?_
                refine X.simple (by kernel_rfl) ?_
                refine X.back ⟨⟨⟨fun _ h => (by cases h; rfl), rfl⟩, trivial⟩, Le.refl _, rfl, ?_⟩
                refine XD.take (i := 6) (l' := (lb 8 127)) (oA B120 [1, 1, 1, 1, 1, 1, 1, 1, 0] 6) (.v (.int .i64 (ns.getD 1 0))) QOk.ctxG (by kernel_rfl) (by kernel_rfl) (by kernel_rfl) (by kernel_rfl) (by kernel_rfl) ?_
                refine XD.take (i := 7) (l' := (lb 8 255)) (oA B120 [1, 1, 1, 1, 1, 1, 1, 1, 0] 7) (.v (.int .i64 0)) QOk.ctxG (by kernel_rfl) (by kernel_rfl) (by kernel_rfl) (by kernel_rfl) (by kernel_rfl) ?_
                refine XD.done (by kernel_rfl) ?_
                refine X.run 2 [2, 3, 4] [2] (.ex .ret) [] ⟨88, [(2, .own 2 0), (3, .v (.int .i64 (ns.getD 1 0))), (4, .v (.int .i64 0))], [(2, ⟨65, [.v (.int .i64 (ns.getD 0 0)), .v (.slice A22 (ys16.length / 2) c22), .v (.string ByteArray.empty)]⟩)]⟩ (by kernel_rfl) ?_
                refine doneG (.inl rfl) [.agg #[.int .i64 (ns.getD 0 0), .slice A22 (ys16.length / 2) c22, .string ByteArray.empty], .int .i64 (ns.getD 1 0), .int .i64 0] [40] (by kernel_rfl) rfl rfl (hG22) ?_
                -- end 8 (FFFTFFF)
                have hsz_ : szk (ns.getD 0 0) = 2 := by rw [show (ns.getD 0 0) = 2 by assumption]; rfl
                have hyl_ : ys16.length = (ns.getD 1 0).toNat - 2 := by rw [← hys16, List.length_drop, List.length_take]; omega
                have hok_ := okP_lit (m := (ns.getD 1 0).toNat - 2) hsz_ (by decide) (show lk2 (ns.getD 0 0) = 1 by rw [show (ns.getD 0 0) = 2 by assumption]; rfl) (show mk2 (ns.getD 0 0) = 1 by rw [show (ns.getD 0 0) = 2 by assumption]; rfl)
                rw [decide_eq_true (by omega)] at hok_
                have he_ : oneE ns = 0 := oneE_fine (by omega) (by omega) (by omega) hok_
                have hn_ : oneN ns = ns.getD 1 0 := by unfold oneN; rw [if_pos he_]
                have ho_ : oneO ns = ((ns.getD 0 0), numsOf ys16 2 (ys16.length / 2), ⟨#[]⟩) := by unfold oneO optS; rw [if_pos he_, hsz_, if_neg (by decide), show inB ns = ys16 from hys16]; rfl
                rw [he_, hn_, ho_]
                simp only [numsOf_len]
                exact ⟨_, _, rfl, rfl⟩
        · -- slot 6: (ns.getD 0 0) == 2 is False
          replace h18 : (ns.getD 0 0) ≠ 2 := by simpa using h18
          refine X.run 7 [2, 3, 4, 5, 8] [1002, 1005] (.code (cA B108 [1, 0, 1, 0, 1, 1, 1])) [.blk 0, .seq (cA B108 [1, 1])] ⟨13, [(2, .v (.int .i64 0)), (3, .v (.int .i64 0)), (4, .v (.int .i64 0)), (5, .v (.int .i64 (ns.getD 0 0))), (8, .v (.bool ((ns.getD 0 0) == 8)))], [(1002, ⟨65, [.v (.int .i64 0), .v (.slice none 0 0), .v (.string ByteArray.empty)]⟩), (1005, ⟨65, [.v (.int .i64 (ns.getD 0 0)), .v (.slice none 0 0), .v (.string ByteArray.empty)]⟩)]⟩ (by kernel_rfl) ?_
          refine X.split 8 rfl (fun h27 => ?_) (fun h27 => ?_)
          · -- slot 8: (ns.getD 0 0) == 8 is True
            replace h27 : (ns.getD 0 0) = 8 := by simpa using h27
            refine X.run 11 [2, 3, 4] [1002, 1005] (.ex .ret) [] ⟨13, [(2, .v (.int .i64 4)), (3, .v (.int .i64 2)), (4, .v (.int .i64 2))], [(1002, ⟨65, [.v (.int .i64 0), .v (.slice none 0 0), .v (.string ByteArray.empty)]⟩), (1005, ⟨65, [.v (.int .i64 (ns.getD 0 0)), .v (.slice none 0 0), .v (.string ByteArray.empty)]⟩)]⟩ (by kernel_rfl) ?_
            refine fin17 _ _ _ _ [.int .i64 4, .int .i64 2, .int .i64 2] [(2, ⟨65, [.v (.int .i64 0), .v (.slice none 0 0), .v (.string ByteArray.empty)]⟩), (5, ⟨65, [.v (.int .i64 (ns.getD 0 0)), .v (.slice none 0 0), .v (.string ByteArray.empty)]⟩)] (.inl rfl) (by kernel_rfl) (by kernel_rfl) ?_
            refine X.run 26 [0, 2, 3, 4, 5, 6, 7, 8, 9, 60] [2, 5] (.ops (aA B120 [1, 1, 1, 1, 1, 1, 0, 0]) (oA B120 [1, 1, 1, 1, 1, 1, 0, 0] 4 :: lA B120 [1, 1, 1, 1, 1, 1, 0, 0] 5)) [.seq (cA B120 [1, 1, 1, 1, 1, 1, 0, 1]), .seq (cA B120 [1, 1, 1, 1, 1, 1, 1])] ⟨88, [(0, .v (.slice A ns.length c)), (2, .own 2 0), (3, .v (.int .i64 0)), (4, .v (.int .i64 0)), (5, .own 5 0), (6, .v (.slice A16 ys16.length (c - 2))), (7, .v (.int .i64 4)), (8, .v (.int .i64 2)), (9, .v (.int .i64 2)), (60, .v (.int .i64 (Int.tmod ((ys16.length : Nat) : Int) 4)))], [(2, ⟨65, [.v (.int .i64 0), .v (.slice none 0 0), .v (.string ByteArray.empty)]⟩), (5, ⟨65, [.v (.int .i64 (ns.getD 0 0)), .v (.slice none 0 0), .v (.string ByteArray.empty)]⟩)]⟩ (by kernel_rfl) ?_
            refine X.known 60 (y := .v (.int .i64 (((ys16.length : Nat) : Int) % 4))) rfl (congrArg (fun z_ => AV.v (.int .i64 z_)) (Int.tmod_eq_emod_of_nonneg (by omega))) ?_
            refine X.run 2 [0, 2, 3, 4, 5, 6, 7, 8, 9, 62] [2, 5] (.ops (aA B120 [1, 1, 1, 1, 1, 1, 0, 0]) (oA B120 [1, 1, 1, 1, 1, 1, 0, 0] 6 :: lA B120 [1, 1, 1, 1, 1, 1, 0, 0] 7)) [.seq (cA B120 [1, 1, 1, 1, 1, 1, 0, 1]), .seq (cA B120 [1, 1, 1, 1, 1, 1, 1])] ⟨88, [(0, .v (.slice A ns.length c)), (2, .own 2 0), (3, .v (.int .i64 0)), (4, .v (.int .i64 0)), (5, .own 5 0), (6, .v (.slice A16 ys16.length (c - 2))), (7, .v (.int .i64 4)), (8, .v (.int .i64 2)), (9, .v (.int .i64 2)), (62, .v (.bool ((((ys16.length : Nat) : Int) % 4) != 0)))], [(2, ⟨65, [.v (.int .i64 0), .v (.slice none 0 0), .v (.string ByteArray.empty)]⟩), (5, ⟨65, [.v (.int .i64 (ns.getD 0 0)), .v (.slice none 0 0), .v (.string ByteArray.empty)]⟩)]⟩ (by kernel_rfl) ?_
            refine X.split 62 rfl (fun h28 => ?_) (fun h28 => ?_)
            · -- slot 62: (((ys16.length : Nat) : Int) % 4) != 0 is True
              replace h28 : (((ys16.length : Nat) : Int) % 4) ≠ 0 := by simpa using h28
              refine X.run 28 [2, 3, 4] [2] (.ex .ret) [] ⟨88, [(2, .own 2 0), (3, .v (.int .i64 0)), (4, .v (.int .i64 5))], [(2, ⟨65, [.v (.int .i64 (ns.getD 0 0)), .v (.slice none 0 0), .v (.string ByteArray.empty)]⟩)]⟩ (by kernel_rfl) ?_
              refine X.nilRow 900 29 1 rfl ?_
              refine doneG (.inl rfl) [.agg #[.int .i64 (ns.getD 0 0), .slice none 0 0, .string ByteArray.empty], .int .i64 0, .int .i64 5] [900] (by kernel_rfl) rfl rfl (Ge.refl _ _) ?_
              -- end 10 (FFFFTT)
              have hsz_ : szk (ns.getD 0 0) = 4 := by rw [show (ns.getD 0 0) = 8 by assumption]; rfl
              have hyl_ : ys16.length = (ns.getD 1 0).toNat - 2 := by rw [← hys16, List.length_drop, List.length_take]; omega
              have hok_ := okP_lit (m := (ns.getD 1 0).toNat - 2) hsz_ (by decide) (show lk2 (ns.getD 0 0) = 2 by rw [show (ns.getD 0 0) = 8 by assumption]; rfl) (show mk2 (ns.getD 0 0) = 2 by rw [show (ns.getD 0 0) = 8 by assumption]; rfl)
              rw [decide_eq_false (by omega)] at hok_
              have he_ : oneE ns = 5 := oneE_form (by omega) (by omega) (by omega) hok_
              have hn_ : oneN ns = 0 := by unfold oneN; rw [if_neg (by rw [he_]; decide)]
              have ho_ : oneO ns = ((ns.getD 0 0), [], ⟨#[]⟩) := by unfold oneO; rw [if_neg (by rw [he_]; decide)]
              rw [he_, hn_, ho_]
              exact ⟨none, 0, rfl, rfl⟩
            · -- slot 62: (((ys16.length : Nat) : Int) % 4) != 0 is False
              replace h28 : (((ys16.length : Nat) : Int) % 4) = 0 := by simpa using h28
              refine X.run 4 [0, 2, 3, 4, 5, 6, 7, 8, 9, 62, 66] [2, 5] (.ops (aA B120 [1, 1, 1, 1, 1, 1, 0, 0]) (oA B120 [1, 1, 1, 1, 1, 1, 0, 0] 10 :: lA B120 [1, 1, 1, 1, 1, 1, 0, 0] 11)) [.seq (cA B120 [1, 1, 1, 1, 1, 1, 0, 1]), .seq (cA B120 [1, 1, 1, 1, 1, 1, 1])] ⟨88, [(0, .v (.slice A ns.length c)), (2, .own 2 0), (3, .v (.int .i64 0)), (4, .v (.int .i64 0)), (5, .own 5 0), (6, .v (.slice A16 ys16.length (c - 2))), (7, .v (.int .i64 4)), (8, .v (.int .i64 2)), (9, .v (.int .i64 2)), (62, .v (.bool false)), (66, .v (.int .i64 (IntKind.i64.wrap (Int.tdiv ((ys16.length : Nat) : Int) 4))))], [(2, ⟨65, [.v (.int .i64 0), .v (.slice none 0 0), .v (.string ByteArray.empty)]⟩), (5, ⟨65, [.v (.int .i64 (ns.getD 0 0)), .v (.slice none 0 0), .v (.string ByteArray.empty)]⟩)]⟩ (by kernel_rfl) ?_
              refine X.known 66 (y := .v (.int .i64 (((ys16.length : Nat) : Int) / 4))) rfl (congrArg (fun z_ => AV.v (.int .i64 z_)) (wdiv_i64 (by omega) (by omega) (by omega))) ?_
              refine X.run 4 [0, 2, 3, 4, 5, 6, 7, 9, 70] [2, 5] (.ops (aA B120 [1, 1, 1, 1, 1, 1, 0, 0]) (oA B120 [1, 1, 1, 1, 1, 1, 0, 0] 14 :: lA B120 [1, 1, 1, 1, 1, 1, 0, 0] 15)) [.seq (cA B120 [1, 1, 1, 1, 1, 1, 0, 1]), .seq (cA B120 [1, 1, 1, 1, 1, 1, 1])] ⟨88, [(0, .v (.slice A ns.length c)), (2, .own 2 0), (3, .v (.int .i64 0)), (4, .v (.int .i64 0)), (5, .own 5 0), (6, .v (.slice A16 ys16.length (c - 2))), (7, .v (.int .i64 4)), (9, .v (.int .i64 2)), (70, .v (.bool (decide (((ys16.length : Nat) : Int) / 4 < 2))))], [(2, ⟨65, [.v (.int .i64 0), .v (.slice none 0 0), .v (.string ByteArray.empty)]⟩), (5, ⟨65, [.v (.int .i64 (ns.getD 0 0)), .v (.slice none 0 0), .v (.string ByteArray.empty)]⟩)]⟩ (by kernel_rfl) ?_
              refine X.split 70 rfl (fun h29 => ?_) (fun h29 => ?_)
              · -- slot 70: decide (((ys16.length : Nat) : Int) / 4 < 2) is True
                replace h29 : ((ys16.length : Nat) : Int) / 4 < 2 := of_decide_eq_true h29
                refine X.run 20 [2, 3, 4] [2] (.ex .ret) [] ⟨88, [(2, .own 2 0), (3, .v (.int .i64 0)), (4, .v (.int .i64 5))], [(2, ⟨65, [.v (.int .i64 (ns.getD 0 0)), .v (.slice none 0 0), .v (.string ByteArray.empty)]⟩)]⟩ (by kernel_rfl) ?_
                refine X.nilRow 900 29 1 rfl ?_
                refine doneG (.inl rfl) [.agg #[.int .i64 (ns.getD 0 0), .slice none 0 0, .string ByteArray.empty], .int .i64 0, .int .i64 5] [900] (by kernel_rfl) rfl rfl (Ge.refl _ _) ?_
                -- end 11 (FFFFTFT)
                have hsz_ : szk (ns.getD 0 0) = 4 := by rw [show (ns.getD 0 0) = 8 by assumption]; rfl
                have hyl_ : ys16.length = (ns.getD 1 0).toNat - 2 := by rw [← hys16, List.length_drop, List.length_take]; omega
                have hok_ := okP_lit (m := (ns.getD 1 0).toNat - 2) hsz_ (by decide) (show lk2 (ns.getD 0 0) = 2 by rw [show (ns.getD 0 0) = 8 by assumption]; rfl) (show mk2 (ns.getD 0 0) = 2 by rw [show (ns.getD 0 0) = 8 by assumption]; rfl)
                rw [decide_eq_false (by omega)] at hok_
                have he_ : oneE ns = 5 := oneE_form (by omega) (by omega) (by omega) hok_
                have hn_ : oneN ns = 0 := by unfold oneN; rw [if_neg (by rw [he_]; decide)]
                have ho_ : oneO ns = ((ns.getD 0 0), [], ⟨#[]⟩) := by unfold oneO; rw [if_neg (by rw [he_]; decide)]
                rw [he_, hn_, ho_]
                exact ⟨none, 0, rfl, rfl⟩
              · -- slot 70: decide (((ys16.length : Nat) : Int) / 4 < 2) is False
                replace h29 : ¬ (((ys16.length : Nat) : Int) / 4 < 2) := of_decide_eq_false h29
                refine X.run 4 [0, 2, 3, 4, 5, 6, 7, 9, 70, 74] [2, 5] (.ops (aA B120 [1, 1, 1, 1, 1, 1, 0, 0]) (oA B120 [1, 1, 1, 1, 1, 1, 0, 0] 18 :: lA B120 [1, 1, 1, 1, 1, 1, 0, 0] 19)) [.seq (cA B120 [1, 1, 1, 1, 1, 1, 0, 1]), .seq (cA B120 [1, 1, 1, 1, 1, 1, 1])] ⟨88, [(0, .v (.slice A ns.length c)), (2, .own 2 0), (3, .v (.int .i64 0)), (4, .v (.int .i64 0)), (5, .own 5 0), (6, .v (.slice A16 ys16.length (c - 2))), (7, .v (.int .i64 4)), (9, .v (.int .i64 2)), (70, .v (.bool false)), (74, .v (.int .i64 (IntKind.i64.wrap (Int.tdiv ((ys16.length : Nat) : Int) 4))))], [(2, ⟨65, [.v (.int .i64 0), .v (.slice none 0 0), .v (.string ByteArray.empty)]⟩), (5, ⟨65, [.v (.int .i64 (ns.getD 0 0)), .v (.slice none 0 0), .v (.string ByteArray.empty)]⟩)]⟩ (by kernel_rfl) ?_
                refine X.known 74 (y := .v (.int .i64 (((ys16.length : Nat) : Int) / 4))) rfl (congrArg (fun z_ => AV.v (.int .i64 z_)) (wdiv_i64 (by omega) (by omega) (by omega))) ?_
                refine X.run 5 [0, 2, 3, 4, 5, 6, 7, 77] [2, 5] (.code (cA B120 [1, 1, 1, 1, 1, 1, 0, 1])) [.seq (cA B120 [1, 1, 1, 1, 1, 1, 1])] ⟨88, [(0, .v (.slice A ns.length c)), (2, .own 2 0), (3, .v (.int .i64 0)), (4, .v (.int .i64 0)), (5, .own 5 0), (6, .v (.slice A16 ys16.length (c - 2))), (7, .v (.int .i64 4)), (77, .v (.bool (decide (((ys16.length : Nat) : Int) / 4 > 2))))], [(2, ⟨65, [.v (.int .i64 0), .v (.slice none 0 0), .v (.string ByteArray.empty)]⟩), (5, ⟨65, [.v (.int .i64 (ns.getD 0 0)), .v (.slice none 0 0), .v (.string ByteArray.empty)]⟩)]⟩ (by kernel_rfl) ?_
                refine X.split 77 rfl (fun h30 => ?_) (fun h30 => ?_)
                · -- slot 77: decide (((ys16.length : Nat) : Int) / 4 > 2) is True
                  replace h30 : ((ys16.length : Nat) : Int) / 4 > 2 := of_decide_eq_true h30
                  refine X.run 11 [2, 3, 4] [2] (.ex .ret) [] ⟨88, [(2, .own 2 0), (3, .v (.int .i64 0)), (4, .v (.int .i64 5))], [(2, ⟨65, [.v (.int .i64 (ns.getD 0 0)), .v (.slice none 0 0), .v (.string ByteArray.empty)]⟩)]⟩ (by kernel_rfl) ?_
                  refine X.nilRow 900 29 1 rfl ?_
                  refine doneG (.inl rfl) [.agg #[.int .i64 (ns.getD 0 0), .slice none 0 0, .string ByteArray.empty], .int .i64 0, .int .i64 5] [900] (by kernel_rfl) rfl rfl (Ge.refl _ _) ?_
                  -- end 12 (FFFFTFFT)
                  have hsz_ : szk (ns.getD 0 0) = 4 := by rw [show (ns.getD 0 0) = 8 by assumption]; rfl
                  have hyl_ : ys16.length = (ns.getD 1 0).toNat - 2 := by rw [← hys16, List.length_drop, List.length_take]; omega
                  have hok_ := okP_lit (m := (ns.getD 1 0).toNat - 2) hsz_ (by decide) (show lk2 (ns.getD 0 0) = 2 by rw [show (ns.getD 0 0) = 8 by assumption]; rfl) (show mk2 (ns.getD 0 0) = 2 by rw [show (ns.getD 0 0) = 8 by assumption]; rfl)
                  rw [decide_eq_false (by omega)] at hok_
                  have he_ : oneE ns = 5 := oneE_form (by omega) (by omega) (by omega) hok_
                  have hn_ : oneN ns = 0 := by unfold oneN; rw [if_neg (by rw [he_]; decide)]
                  have ho_ : oneO ns = ((ns.getD 0 0), [], ⟨#[]⟩) := by unfold oneO; rw [if_neg (by rw [he_]; decide)]
                  rw [he_, hn_, ho_]
                  exact ⟨none, 0, rfl, rfl⟩
                · -- slot 77: decide (((ys16.length : Nat) : Int) / 4 > 2) is False
                  replace h30 : ¬ (((ys16.length : Nat) : Int) / 4 > 2) := of_decide_eq_false h30
                  refine X.run 7 [0, 2, 3, 4, 5, 79, 80] [2, 5] (.ops (aA B120 [1, 1, 1, 1, 1, 1, 1, 0]) (oA B120 [1, 1, 1, 1, 1, 1, 1, 0] 2 :: lA B120 [1, 1, 1, 1, 1, 1, 1, 0] 3)) [.seq (cA B120 [1, 1, 1, 1, 1, 1, 1, 1])] ⟨88, [(0, .v (.slice A ns.length c)), (2, .own 2 0), (3, .v (.int .i64 0)), (4, .v (.int .i64 0)), (5, .own 5 0), (79, .v (.slice A16 ys16.length (c - 2))), (80, .v (.int .i64 4))], [(2, ⟨65, [.v (.int .i64 0), .v (.slice none 0 0), .v (.string ByteArray.empty)]⟩), (5, ⟨65, [.v (.int .i64 (ns.getD 0 0)), .v (.slice none 0 0), .v (.string ByteArray.empty)]⟩)]⟩ (by kernel_rfl) ?_
                  obtain ⟨nb31, no31, hnA31⟩ := cutA_addr (c := c) (lo := 2) (sz := 1) hA0
                  rw [hA16] at hnA31
                  refine X.callG (f := 157) (l := [.v (.slice A16 ys16.length (c - 2)), .v (.int .i64 4)]) [.slice A16 ys16.length (c - 2), .int .i64 4] 40 (by kernel_rfl) (by kernel_rfl) (by kernel_rfl) (numbers_okA hnA31 (c - 2) 4 (ys16.length / 4) ys16 (by decide) (by decide) (by omega) (by omega) (by omega) _ hr16) ?_
                  rintro v31 G31 rows31 hG31 ⟨A31, c31, rfl, rfl⟩
                  replace hr := hr.mono hG31.le
                  replace hr16 := hr16.mono hG31.le
                  refine X.asR (R' := [(40, ⟨29, 1, .slice A31 (ys16.length / 4) c31, (ys16.length / 4), (numsOf ys16 4 (ys16.length / 4)).map (Value.int .u32)⟩)]) rfl ?_
                  refine X.run 5 [0, 2, 3, 4, 5] [2, 5] (.code (cA B120 [1, 1, 1, 1, 1, 1, 1, 1, 0])) [.seq (cA B120 [1, 1, 1, 1, 1, 1, 1, 1, 1])] ⟨88, [(0, .v (.slice A ns.length c)), (2, .own 2 0), (3, .v (.int .i64 0)), (4, .v (.int .i64 0)), (5, .own 5 0)], [(2, ⟨65, [.v (.int .i64 0), .v (.slice none 0 0), .v (.string ByteArray.empty)]⟩), (5, ⟨65, [.v (.int .i64 (ns.getD 0 0)), .v (.slice A31 (ys16.length / 4) c31), .v (.string ByteArray.empty)]⟩)]⟩ (by kernel_rfl) ?_
                  have hr_d32 := hr
                  have hr16_d32 := hr16
                  refine XD.open (id := 16) (arr := aA B120 [1, 1, 1, 1, 1, 1, 1, 1, 0]) 8 [⟨some 5, 5, 65, [.v (.int .i64 (ns.getD 0 0)), .v (.slice A31 (ys16.length / 4) c31), .v (.string ByteArray.empty)]⟩] [] [] (by kernel_rfl) (by kernel_rfl) (by kernel_rfl) (by kernel_rfl) (by kernel_rfl) ⟨⟨fun _ h => (by cases h; rfl), rfl⟩, trivial⟩ (by intro p hp hn; simp only [List.mem_cons, List.not_mem_nil, or_false] at hp; rcases hp with rfl <;> first | (cases hn; done) | exact absurd _ (Nat.le_of_ble_eq_true rfl)) rfl (fun ρ0 => ?_)
                  refine XD.take (i := 0) (l' := (lb 8 1)) (oA B120 [1, 1, 1, 1, 1, 1, 1, 1, 0] 0) (.v (.agg #[.int .i64 (ns.getD 0 0), .slice A31 (ys16.length / 4) c31, .string ByteArray.empty])) QOk.ctxG (by kernel_rfl) (by kernel_rfl) (by kernel_rfl) (by kernel_rfl) (by kernel_rfl) ?_
                  refine XD.take (i := 1) (l' := (lb 8 3)) (oA B120 [1, 1, 1, 1, 1, 1, 1, 1, 0] 1) (.v (.slice A ns.length c)) QOk.ctxG (by kernel_rfl) (by kernel_rfl) (by kernel_rfl) (by kernel_rfl) (by kernel_rfl) ?_
                  have b33 : (0 : Int) ≤ 1 := by omega
                  have b34 : 1 < ((ns.length : Nat) : Int) := by omega
                  obtain ⟨at35, lo35, hi35⟩ := At.int [] hr_d32 1 (by omega)
                  simp only [IntKind.lo, IntKind.hi] at lo35 hi35
                  refine XD.index (i := 2) (l' := (lb 8 7)) (o := (oA B120 [1, 1, 1, 1, 1, 1, 1, 1, 0] 2)) (t := 22) (e := 5) (sz := 1) (A := A) (n := ns.length) (c := c) (ki := .i64) (j := 1) (x := .tmp 84) (ix := .const (.int .i64 1)) QOk.ctxG (by kernel_rfl) (by kernel_rfl) (by kernel_rfl) (by kernel_rfl) (by kernel_rfl) (by kernel_rfl) (by kernel_rfl) (by kernel_rfl) b33 b34 (fun _ _ => rowAt.so hr_d32 (by omega)) (by kernel_rfl) ?_
                  refine XD.load (i := 3) (l' := (lb 8 15)) (o := (oA B120 [1, 1, 1, 1, 1, 1, 1, 1, 0] 3)) (t := 5) (A := A) (j := 1 * 1) (x := .tmp 85) (z := .int .u8 (ns.getD 1 0)) [.int .u8 (ns.getD 1 0)] QOk.ctxG (by kernel_rfl) (by kernel_rfl) (by kernel_rfl) (by kernel_rfl) (by kernel_rfl) at35 (by kernel_rfl) (by kernel_rfl) ?_
                  refine XD.take (i := 4) (l' := (lb 8 31)) (oA B120 [1, 1, 1, 1, 1, 1, 1, 1, 0] 4) (.v (.int .i64 (IntKind.i64.wrap (ns.getD 1 0)))) QOk.ctxG (by kernel_rfl) (by kernel_rfl) (by kernel_rfl) (by kernel_rfl) (by kernel_rfl) ?_
                  refine XD.known 87 (y := .v (.int .i64 (ns.getD 1 0))) rfl (congrArg (fun z_ => AV.v (.int .i64 z_)) (wi64 (by omega) (by omega))) ?_
                  refine XD.norm [2, 3, 4, 5, 83, 87] [2, 5] ⟨88, [(2, .own 2 0), (3, .v (.int .i64 0)), (4, .v (.int .i64 0)), (5, .own 5 0), (83, .v (.agg #[.int .i64 (ns.getD 0 0), .slice A31 (ys16.length / 4) c31, .string ByteArray.empty])), (87, .v (.int .i64 (ns.getD 1 0)))], [(2, ⟨65, [.v (.int .i64 0), .v (.slice none 0 0), .v (.string ByteArray.empty)]⟩), (5, ⟨65, [.v (.int .i64 (ns.getD 0 0)), .v (.slice A31 (ys16.length / 4) c31), .v (.string ByteArray.empty)]⟩)]⟩ (by kernel_rfl) ⟨⟨fun _ h => (by cases h; rfl), rfl⟩, trivial⟩ ?_
                  refine XD.one (i := 5) (l' := (lb 8 63)) (oA B120 [1, 1, 1, 1, 1, 1, 1, 1, 0] 5) (by kernel_rfl) (by kernel_rfl) (by kernel_rfl) ?_
                  refine X.simple (by kernel_rfl) ?_
                  refine X.back ⟨⟨⟨fun _ h => (by cases h; rfl), rfl⟩, trivial⟩, Le.refl _, rfl, ?_⟩
                  refine XD.take (i := 6) (l' := (lb 8 127)) (oA B120 [1, 1, 1, 1, 1, 1, 1, 1, 0] 6) (.v (.int .i64 (ns.getD 1 0))) QOk.ctxG (by kernel_rfl) (by kernel_rfl) (by kernel_rfl) (by kernel_rfl) (by kernel_rfl) ?_
                  refine XD.take (i := 7) (l' := (lb 8 255)) (oA B120 [1, 1, 1, 1, 1, 1, 1, 1, 0] 7) (.v (.int .i64 0)) QOk.ctxG (by kernel_rfl) (by kernel_rfl) (by kernel_rfl) (by kernel_rfl) (by kernel_rfl) ?_
                  refine XD.done (by kernel_rfl) ?_
                  refine X.run 2 [2, 3, 4] [2] (.ex .ret) [] ⟨88, [(2, .own 2 0), (3, .v (.int .i64 (ns.getD 1 0))), (4, .v (.int .i64 0))], [(2, ⟨65, [.v (.int .i64 (ns.getD 0 0)), .v (.slice A31 (ys16.length / 4) c31), .v (.string ByteArray.empty)]⟩)]⟩ (by kernel_rfl) ?_
                  refine doneG (.inl rfl) [.agg #[.int .i64 (ns.getD 0 0), .slice A31 (ys16.length / 4) c31, .string ByteArray.empty], .int .i64 (ns.getD 1 0), .int .i64 0] [40] (by kernel_rfl) rfl rfl (hG31) ?_
                  -- end 13 (FFFFTFFF)
                  have hsz_ : szk (ns.getD 0 0) = 4 := by rw [show (ns.getD 0 0) = 8 by assumption]; rfl
                  have hyl_ : ys16.length = (ns.getD 1 0).toNat - 2 := by rw [← hys16, List.length_drop, List.length_take]; omega
                  have hok_ := okP_lit (m := (ns.getD 1 0).toNat - 2) hsz_ (by decide) (show lk2 (ns.getD 0 0) = 2 by rw [show (ns.getD 0 0) = 8 by assumption]; rfl) (show mk2 (ns.getD 0 0) = 2 by rw [show (ns.getD 0 0) = 8 by assumption]; rfl)
                  rw [decide_eq_true (by omega)] at hok_
                  have he_ : oneE ns = 0 := oneE_fine (by omega) (by omega) (by omega) hok_
                  have hn_ : oneN ns = ns.getD 1 0 := by unfold oneN; rw [if_pos he_]
                  have ho_ : oneO ns = ((ns.getD 0 0), numsOf ys16 4 (ys16.length / 4), ⟨#[]⟩) := by unfold oneO optS; rw [if_pos he_, hsz_, if_neg (by decide), show inB ns = ys16 from hys16]; rfl
                  rw [he_, hn_, ho_]
                  simp only [numsOf_len]
                  exact ⟨_, _, rfl, rfl⟩
          · -- slot 8: (ns.getD 0 0) == 8 is False
            replace h27 : (ns.getD 0 0) ≠ 8 := by simpa using h27
            refine X.run 8 [2, 3, 4, 5, 10] [1002, 1005] (.code (cA B108 [1, 0, 1, 0, 1, 1, 1, 1, 0, 1])) [.seq (cA B108 [1, 0, 1, 0, 1, 1, 1, 1, 1]), .blk 0, .seq (cA B108 [1, 1])] ⟨13, [(2, .v (.int .i64 0)), (3, .v (.int .i64 0)), (4, .v (.int .i64 0)), (5, .v (.int .i64 (ns.getD 0 0))), (10, .v (.bool ((ns.getD 0 0) == 172)))], [(1002, ⟨65, [.v (.int .i64 0), .v (.slice none 0 0), .v (.string ByteArray.empty)]⟩), (1005, ⟨65, [.v (.int .i64 (ns.getD 0 0)), .v (.slice none 0 0), .v (.string ByteArray.empty)]⟩)]⟩ (by kernel_rfl) ?_
            refine X.split 10 rfl (fun h36 => ?_) (fun h36 => ?_)
            · -- slot 10: (ns.getD 0 0) == 172 is True
              replace h36 : (ns.getD 0 0) = 172 := by simpa using h36
              refine X.run 14 [2, 3, 4] [1002, 1005] (.ex .ret) [] ⟨13, [(2, .v (.int .i64 3)), (3, .v (.int .i64 0)), (4, .v (.int .i64 3))], [(1002, ⟨65, [.v (.int .i64 0), .v (.slice none 0 0), .v (.string ByteArray.empty)]⟩), (1005, ⟨65, [.v (.int .i64 (ns.getD 0 0)), .v (.slice none 0 0), .v (.string ByteArray.empty)]⟩)]⟩ (by kernel_rfl) ?_
              refine fin17 _ _ _ _ [.int .i64 3, .int .i64 0, .int .i64 3] [(2, ⟨65, [.v (.int .i64 0), .v (.slice none 0 0), .v (.string ByteArray.empty)]⟩), (5, ⟨65, [.v (.int .i64 (ns.getD 0 0)), .v (.slice none 0 0), .v (.string ByteArray.empty)]⟩)] (.inl rfl) (by kernel_rfl) (by kernel_rfl) ?_
              refine X.run 26 [0, 2, 3, 4, 5, 6, 7, 8, 9, 60] [2, 5] (.ops (aA B120 [1, 1, 1, 1, 1, 1, 0, 0]) (oA B120 [1, 1, 1, 1, 1, 1, 0, 0] 4 :: lA B120 [1, 1, 1, 1, 1, 1, 0, 0] 5)) [.seq (cA B120 [1, 1, 1, 1, 1, 1, 0, 1]), .seq (cA B120 [1, 1, 1, 1, 1, 1, 1])] ⟨88, [(0, .v (.slice A ns.length c)), (2, .own 2 0), (3, .v (.int .i64 0)), (4, .v (.int .i64 0)), (5, .own 5 0), (6, .v (.slice A16 ys16.length (c - 2))), (7, .v (.int .i64 3)), (8, .v (.int .i64 0)), (9, .v (.int .i64 3)), (60, .v (.int .i64 (Int.tmod ((ys16.length : Nat) : Int) 3)))], [(2, ⟨65, [.v (.int .i64 0), .v (.slice none 0 0), .v (.string ByteArray.empty)]⟩), (5, ⟨65, [.v (.int .i64 (ns.getD 0 0)), .v (.slice none 0 0), .v (.string ByteArray.empty)]⟩)]⟩ (by kernel_rfl) ?_
              refine X.known 60 (y := .v (.int .i64 (((ys16.length : Nat) : Int) % 3))) rfl (congrArg (fun z_ => AV.v (.int .i64 z_)) (Int.tmod_eq_emod_of_nonneg (by omega))) ?_
              refine X.run 2 [0, 2, 3, 4, 5, 6, 7, 8, 9, 62] [2, 5] (.ops (aA B120 [1, 1, 1, 1, 1, 1, 0, 0]) (oA B120 [1, 1, 1, 1, 1, 1, 0, 0] 6 :: lA B120 [1, 1, 1, 1, 1, 1, 0, 0] 7)) [.seq (cA B120 [1, 1, 1, 1, 1, 1, 0, 1]), .seq (cA B120 [1, 1, 1, 1, 1, 1, 1])] ⟨88, [(0, .v (.slice A ns.length c)), (2, .own 2 0), (3, .v (.int .i64 0)), (4, .v (.int .i64 0)), (5, .own 5 0), (6, .v (.slice A16 ys16.length (c - 2))), (7, .v (.int .i64 3)), (8, .v (.int .i64 0)), (9, .v (.int .i64 3)), (62, .v (.bool ((((ys16.length : Nat) : Int) % 3) != 0)))], [(2, ⟨65, [.v (.int .i64 0), .v (.slice none 0 0), .v (.string ByteArray.empty)]⟩), (5, ⟨65, [.v (.int .i64 (ns.getD 0 0)), .v (.slice none 0 0), .v (.string ByteArray.empty)]⟩)]⟩ (by kernel_rfl) ?_
              refine X.split 62 rfl (fun h37 => ?_) (fun h37 => ?_)
              · -- slot 62: (((ys16.length : Nat) : Int) % 3) != 0 is True
                replace h37 : (((ys16.length : Nat) : Int) % 3) ≠ 0 := by simpa using h37
                refine X.run 28 [2, 3, 4] [2] (.ex .ret) [] ⟨88, [(2, .own 2 0), (3, .v (.int .i64 0)), (4, .v (.int .i64 5))], [(2, ⟨65, [.v (.int .i64 (ns.getD 0 0)), .v (.slice none 0 0), .v (.string ByteArray.empty)]⟩)]⟩ (by kernel_rfl) ?_
                refine X.nilRow 900 29 1 rfl ?_
                refine doneG (.inl rfl) [.agg #[.int .i64 (ns.getD 0 0), .slice none 0 0, .string ByteArray.empty], .int .i64 0, .int .i64 5] [900] (by kernel_rfl) rfl rfl (Ge.refl _ _) ?_
                -- end 15 (FFFFFTT)
                have hsz_ : szk (ns.getD 0 0) = 3 := by rw [show (ns.getD 0 0) = 172 by assumption]; rfl
                have hyl_ : ys16.length = (ns.getD 1 0).toNat - 2 := by rw [← hys16, List.length_drop, List.length_take]; omega
                have hok_ := okP_lit (m := (ns.getD 1 0).toNat - 2) hsz_ (by decide) (show lk2 (ns.getD 0 0) = 0 by rw [show (ns.getD 0 0) = 172 by assumption]; rfl) (show mk2 (ns.getD 0 0) = 3 by rw [show (ns.getD 0 0) = 172 by assumption]; rfl)
                rw [decide_eq_false (by omega)] at hok_
                have he_ : oneE ns = 5 := oneE_form (by omega) (by omega) (by omega) hok_
                have hn_ : oneN ns = 0 := by unfold oneN; rw [if_neg (by rw [he_]; decide)]
                have ho_ : oneO ns = ((ns.getD 0 0), [], ⟨#[]⟩) := by unfold oneO; rw [if_neg (by rw [he_]; decide)]
                rw [he_, hn_, ho_]
                exact ⟨none, 0, rfl, rfl⟩
              · -- slot 62: (((ys16.length : Nat) : Int) % 3) != 0 is False
                replace h37 : (((ys16.length : Nat) : Int) % 3) = 0 := by simpa using h37
                refine X.run 4 [0, 2, 3, 4, 5, 6, 7, 8, 9, 62, 66] [2, 5] (.ops (aA B120 [1, 1, 1, 1, 1, 1, 0, 0]) (oA B120 [1, 1, 1, 1, 1, 1, 0, 0] 10 :: lA B120 [1, 1, 1, 1, 1, 1, 0, 0] 11)) [.seq (cA B120 [1, 1, 1, 1, 1, 1, 0, 1]), .seq (cA B120 [1, 1, 1, 1, 1, 1, 1])] ⟨88, [(0, .v (.slice A ns.length c)), (2, .own 2 0), (3, .v (.int .i64 0)), (4, .v (.int .i64 0)), (5, .own 5 0), (6, .v (.slice A16 ys16.length (c - 2))), (7, .v (.int .i64 3)), (8, .v (.int .i64 0)), (9, .v (.int .i64 3)), (62, .v (.bool false)), (66, .v (.int .i64 (IntKind.i64.wrap (Int.tdiv ((ys16.length : Nat) : Int) 3))))], [(2, ⟨65, [.v (.int .i64 0), .v (.slice none 0 0), .v (.string ByteArray.empty)]⟩), (5, ⟨65, [.v (.int .i64 (ns.getD 0 0)), .v (.slice none 0 0), .v (.string ByteArray.empty)]⟩)]⟩ (by kernel_rfl) ?_
                refine X.known 66 (y := .v (.int .i64 (((ys16.length : Nat) : Int) / 3))) rfl (congrArg (fun z_ => AV.v (.int .i64 z_)) (wdiv_i64 (by omega) (by omega) (by omega))) ?_
                refine X.run 4 [0, 2, 3, 4, 5, 6, 7, 9, 70] [2, 5] (.ops (aA B120 [1, 1, 1, 1, 1, 1, 0, 0]) (oA B120 [1, 1, 1, 1, 1, 1, 0, 0] 14 :: lA B120 [1, 1, 1, 1, 1, 1, 0, 0] 15)) [.seq (cA B120 [1, 1, 1, 1, 1, 1, 0, 1]), .seq (cA B120 [1, 1, 1, 1, 1, 1, 1])] ⟨88, [(0, .v (.slice A ns.length c)), (2, .own 2 0), (3, .v (.int .i64 0)), (4, .v (.int .i64 0)), (5, .own 5 0), (6, .v (.slice A16 ys16.length (c - 2))), (7, .v (.int .i64 3)), (9, .v (.int .i64 3)), (70, .v (.bool (decide (((ys16.length : Nat) : Int) / 3 < 0))))], [(2, ⟨65, [.v (.int .i64 0), .v (.slice none 0 0), .v (.string ByteArray.empty)]⟩), (5, ⟨65, [.v (.int .i64 (ns.getD 0 0)), .v (.slice none 0 0), .v (.string ByteArray.empty)]⟩)]⟩ (by kernel_rfl) ?_
                refine X.split 70 rfl (fun h38 => ?_) (fun h38 => ?_)
                · -- slot 70: decide (((ys16.length : Nat) : Int) / 3 < 0) is True
                  replace h38 : ((ys16.length : Nat) : Int) / 3 < 0 := of_decide_eq_true h38
                  refine X.run 20 [2, 3, 4] [2] (.ex .ret) [] ⟨88, [(2, .own 2 0), (3, .v (.int .i64 0)), (4, .v (.int .i64 5))], [(2, ⟨65, [.v (.int .i64 (ns.getD 0 0)), .v (.slice none 0 0), .v (.string ByteArray.empty)]⟩)]⟩ (by kernel_rfl) ?_
                  refine X.nilRow 900 29 1 rfl ?_
                  refine doneG (.inl rfl) [.agg #[.int .i64 (ns.getD 0 0), .slice none 0 0, .string ByteArray.empty], .int .i64 0, .int .i64 5] [900] (by kernel_rfl) rfl rfl (Ge.refl _ _) ?_
                  -- end 16 (FFFFFTFT)
                  have hsz_ : szk (ns.getD 0 0) = 3 := by rw [show (ns.getD 0 0) = 172 by assumption]; rfl
                  have hyl_ : ys16.length = (ns.getD 1 0).toNat - 2 := by rw [← hys16, List.length_drop, List.length_take]; omega
                  have hok_ := okP_lit (m := (ns.getD 1 0).toNat - 2) hsz_ (by decide) (show lk2 (ns.getD 0 0) = 0 by rw [show (ns.getD 0 0) = 172 by assumption]; rfl) (show mk2 (ns.getD 0 0) = 3 by rw [show (ns.getD 0 0) = 172 by assumption]; rfl)
                  rw [decide_eq_false (by omega)] at hok_
                  have he_ : oneE ns = 5 := oneE_form (by omega) (by omega) (by omega) hok_
                  have hn_ : oneN ns = 0 := by unfold oneN; rw [if_neg (by rw [he_]; decide)]
                  have ho_ : oneO ns = ((ns.getD 0 0), [], ⟨#[]⟩) := by unfold oneO; rw [if_neg (by rw [he_]; decide)]
                  rw [he_, hn_, ho_]
                  exact ⟨none, 0, rfl, rfl⟩
                · -- slot 70: decide (((ys16.length : Nat) : Int) / 3 < 0) is False
                  replace h38 : ¬ (((ys16.length : Nat) : Int) / 3 < 0) := of_decide_eq_false h38
                  refine X.run 4 [0, 2, 3, 4, 5, 6, 7, 9, 70, 74] [2, 5] (.ops (aA B120 [1, 1, 1, 1, 1, 1, 0, 0]) (oA B120 [1, 1, 1, 1, 1, 1, 0, 0] 18 :: lA B120 [1, 1, 1, 1, 1, 1, 0, 0] 19)) [.seq (cA B120 [1, 1, 1, 1, 1, 1, 0, 1]), .seq (cA B120 [1, 1, 1, 1, 1, 1, 1])] ⟨88, [(0, .v (.slice A ns.length c)), (2, .own 2 0), (3, .v (.int .i64 0)), (4, .v (.int .i64 0)), (5, .own 5 0), (6, .v (.slice A16 ys16.length (c - 2))), (7, .v (.int .i64 3)), (9, .v (.int .i64 3)), (70, .v (.bool false)), (74, .v (.int .i64 (IntKind.i64.wrap (Int.tdiv ((ys16.length : Nat) : Int) 3))))], [(2, ⟨65, [.v (.int .i64 0), .v (.slice none 0 0), .v (.string ByteArray.empty)]⟩), (5, ⟨65, [.v (.int .i64 (ns.getD 0 0)), .v (.slice none 0 0), .v (.string ByteArray.empty)]⟩)]⟩ (by kernel_rfl) ?_
                  refine X.known 74 (y := .v (.int .i64 (((ys16.length : Nat) : Int) / 3))) rfl (congrArg (fun z_ => AV.v (.int .i64 z_)) (wdiv_i64 (by omega) (by omega) (by omega))) ?_
                  refine X.run 5 [0, 2, 3, 4, 5, 6, 7, 77] [2, 5] (.code (cA B120 [1, 1, 1, 1, 1, 1, 0, 1])) [.seq (cA B120 [1, 1, 1, 1, 1, 1, 1])] ⟨88, [(0, .v (.slice A ns.length c)), (2, .own 2 0), (3, .v (.int .i64 0)), (4, .v (.int .i64 0)), (5, .own 5 0), (6, .v (.slice A16 ys16.length (c - 2))), (7, .v (.int .i64 3)), (77, .v (.bool (decide (((ys16.length : Nat) : Int) / 3 > 3))))], [(2, ⟨65, [.v (.int .i64 0), .v (.slice none 0 0), .v (.string ByteArray.empty)]⟩), (5, ⟨65, [.v (.int .i64 (ns.getD 0 0)), .v (.slice none 0 0), .v (.string ByteArray.empty)]⟩)]⟩ (by kernel_rfl) ?_
                  refine X.split 77 rfl (fun h39 => ?_) (fun h39 => ?_)
                  · -- slot 77: decide (((ys16.length : Nat) : Int) / 3 > 3) is True
                    replace h39 : ((ys16.length : Nat) : Int) / 3 > 3 := of_decide_eq_true h39
                    refine X.run 11 [2, 3, 4] [2] (.ex .ret) [] ⟨88, [(2, .own 2 0), (3, .v (.int .i64 0)), (4, .v (.int .i64 5))], [(2, ⟨65, [.v (.int .i64 (ns.getD 0 0)), .v (.slice none 0 0), .v (.string ByteArray.empty)]⟩)]⟩ (by kernel_rfl) ?_
                    refine X.nilRow 900 29 1 rfl ?_
                    refine doneG (.inl rfl) [.agg #[.int .i64 (ns.getD 0 0), .slice none 0 0, .string ByteArray.empty], .int .i64 0, .int .i64 5] [900] (by kernel_rfl) rfl rfl (Ge.refl _ _) ?_
                    -- end 17 (FFFFFTFFT)
                    have hsz_ : szk (ns.getD 0 0) = 3 := by rw [show (ns.getD 0 0) = 172 by assumption]; rfl
                    have hyl_ : ys16.length = (ns.getD 1 0).toNat - 2 := by rw [← hys16, List.length_drop, List.length_take]; omega
                    have hok_ := okP_lit (m := (ns.getD 1 0).toNat - 2) hsz_ (by decide) (show lk2 (ns.getD 0 0) = 0 by rw [show (ns.getD 0 0) = 172 by assumption]; rfl) (show mk2 (ns.getD 0 0) = 3 by rw [show (ns.getD 0 0) = 172 by assumption]; rfl)
                    rw [decide_eq_false (by omega)] at hok_
                    have he_ : oneE ns = 5 := oneE_form (by omega) (by omega) (by omega) hok_
                    have hn_ : oneN ns = 0 := by unfold oneN; rw [if_neg (by rw [he_]; decide)]
                    have ho_ : oneO ns = ((ns.getD 0 0), [], ⟨#[]⟩) := by unfold oneO; rw [if_neg (by rw [he_]; decide)]
                    rw [he_, hn_, ho_]
                    exact ⟨none, 0, rfl, rfl⟩
                  · -- slot 77: decide (((ys16.length : Nat) : Int) / 3 > 3) is False
                    replace h39 : ¬ (((ys16.length : Nat) : Int) / 3 > 3) := of_decide_eq_false h39
                    refine X.run 7 [0, 2, 3, 4, 5, 79, 80] [2, 5] (.ops (aA B120 [1, 1, 1, 1, 1, 1, 1, 0]) (oA B120 [1, 1, 1, 1, 1, 1, 1, 0] 2 :: lA B120 [1, 1, 1, 1, 1, 1, 1, 0] 3)) [.seq (cA B120 [1, 1, 1, 1, 1, 1, 1, 1])] ⟨88, [(0, .v (.slice A ns.length c)), (2, .own 2 0), (3, .v (.int .i64 0)), (4, .v (.int .i64 0)), (5, .own 5 0), (79, .v (.slice A16 ys16.length (c - 2))), (80, .v (.int .i64 3))], [(2, ⟨65, [.v (.int .i64 0), .v (.slice none 0 0), .v (.string ByteArray.empty)]⟩), (5, ⟨65, [.v (.int .i64 (ns.getD 0 0)), .v (.slice none 0 0), .v (.string ByteArray.empty)]⟩)]⟩ (by kernel_rfl) ?_
                    obtain ⟨nb40, no40, hnA40⟩ := cutA_addr (c := c) (lo := 2) (sz := 1) hA0
                    rw [hA16] at hnA40
                    refine X.callG (f := 157) (l := [.v (.slice A16 ys16.length (c - 2)), .v (.int .i64 3)]) [.slice A16 ys16.length (c - 2), .int .i64 3] 40 (by kernel_rfl) (by kernel_rfl) (by kernel_rfl) (numbers_okA hnA40 (c - 2) 3 (ys16.length / 3) ys16 (by decide) (by decide) (by omega) (by omega) (by omega) _ hr16) ?_
                    rintro v40 G40 rows40 hG40 ⟨A40, c40, rfl, rfl⟩
                    replace hr := hr.mono hG40.le
                    replace hr16 := hr16.mono hG40.le
                    refine X.asR (R' := [(40, ⟨29, 1, .slice A40 (ys16.length / 3) c40, (ys16.length / 3), (numsOf ys16 3 (ys16.length / 3)).map (Value.int .u32)⟩)]) rfl ?_
                    refine X.run 5 [0, 2, 3, 4, 5] [2, 5] (.code (cA B120 [1, 1, 1, 1, 1, 1, 1, 1, 0])) [.seq (cA B120 [1, 1, 1, 1, 1, 1, 1, 1, 1])] ⟨88, [(0, .v (.slice A ns.length c)), (2, .own 2 0), (3, .v (.int .i64 0)), (4, .v (.int .i64 0)), (5, .own 5 0)], [(2, ⟨65, [.v (.int .i64 0), .v (.slice none 0 0), .v (.string ByteArray.empty)]⟩), (5, ⟨65, [.v (.int .i64 (ns.getD 0 0)), .v (.slice A40 (ys16.length / 3) c40), .v (.string ByteArray.empty)]⟩)]⟩ (by kernel_rfl) ?_
                    have hr_d41 := hr
                    have hr16_d41 := hr16
                    refine XD.open (id := 16) (arr := aA B120 [1, 1, 1, 1, 1, 1, 1, 1, 0]) 8 [⟨some 5, 5, 65, [.v (.int .i64 (ns.getD 0 0)), .v (.slice A40 (ys16.length / 3) c40), .v (.string ByteArray.empty)]⟩] [] [] (by kernel_rfl) (by kernel_rfl) (by kernel_rfl) (by kernel_rfl) (by kernel_rfl) ⟨⟨fun _ h => (by cases h; rfl), rfl⟩, trivial⟩ (by intro p hp hn; simp only [List.mem_cons, List.not_mem_nil, or_false] at hp; rcases hp with rfl <;> first | (cases hn; done) | exact absurd _ (Nat.le_of_ble_eq_true rfl)) rfl (fun ρ0 => ?_)
                    refine XD.take (i := 0) (l' := (lb 8 1)) (oA B120 [1, 1, 1, 1, 1, 1, 1, 1, 0] 0) (.v (.agg #[.int .i64 (ns.getD 0 0), .slice A40 (ys16.length / 3) c40, .string ByteArray.empty])) QOk.ctxG (by kernel_rfl) (by kernel_rfl) (by kernel_rfl) (by kernel_rfl) (by kernel_rfl) ?_
                    refine XD.take (i := 1) (l' := (lb 8 3)) (oA B120 [1, 1, 1, 1, 1, 1, 1, 1, 0] 1) (.v (.slice A ns.length c)) QOk.ctxG (by kernel_rfl) (by kernel_rfl) (by kernel_rfl) (by kernel_rfl) (by kernel_rfl) ?_
                    have b42 : (0 : Int) ≤ 1 := by omega
                    have b43 : 1 < ((ns.length : Nat) : Int) := by omega
                    obtain ⟨at44, lo44, hi44⟩ := At.int [] hr_d41 1 (by omega)
                    simp only [IntKind.lo, IntKind.hi] at lo44 hi44
                    refine XD.index (i := 2) (l' := (lb 8 7)) (o := (oA B120 [1, 1, 1, 1, 1, 1, 1, 1, 0] 2)) (t := 22) (e := 5) (sz := 1) (A := A) (n := ns.length) (c := c) (ki := .i64) (j := 1) (x := .tmp 84) (ix := .const (.int .i64 1)) QOk.ctxG (by kernel_rfl) (by kernel_rfl) (by kernel_rfl) (by kernel_rfl) (by kernel_rfl) (by kernel_rfl) (by kernel_rfl) (by kernel_rfl) b42 b43 (fun _ _ => rowAt.so hr_d41 (by omega)) (by kernel_rfl) ?_
                    refine XD.load (i := 3) (l' := (lb 8 15)) (o := (oA B120 [1, 1, 1, 1, 1, 1, 1, 1, 0] 3)) (t := 5) (A := A) (j := 1 * 1) (x := .tmp 85) (z := .int .u8 (ns.getD 1 0)) [.int .u8 (ns.getD 1 0)] QOk.ctxG (by kernel_rfl) (by kernel_rfl) (by kernel_rfl) (by kernel_rfl) (by kernel_rfl) at44 (by kernel_rfl) (by kernel_rfl) ?_
                    refine XD.take (i := 4) (l' := (lb 8 31)) (oA B120 [1, 1, 1, 1, 1, 1, 1, 1, 0] 4) (.v (.int .i64 (IntKind.i64.wrap (ns.getD 1 0)))) QOk.ctxG (by kernel_rfl) (by kernel_rfl) (by kernel_rfl) (by kernel_rfl) (by kernel_rfl) ?_
                    refine XD.known 87 (y := .v (.int .i64 (ns.getD 1 0))) rfl (congrArg (fun z_ => AV.v (.int .i64 z_)) (wi64 (by omega) (by omega))) ?_
                    refine XD.norm [2, 3, 4, 5, 83, 87] [2, 5] ⟨88, [(2, .own 2 0), (3, .v (.int .i64 0)), (4, .v (.int .i64 0)), (5, .own 5 0), (83, .v (.agg #[.int .i64 (ns.getD 0 0), .slice A40 (ys16.length / 3) c40, .string ByteArray.empty])), (87, .v (.int .i64 (ns.getD 1 0)))], [(2, ⟨65, [.v (.int .i64 0), .v (.slice none 0 0), .v (.string ByteArray.empty)]⟩), (5, ⟨65, [.v (.int .i64 (ns.getD 0 0)), .v (.slice A40 (ys16.length / 3) c40), .v (.string ByteArray.empty)]⟩)]⟩ (by kernel_rfl) ⟨⟨fun _ h => (by cases h; rfl), rfl⟩, trivial⟩ ?_
                    refine XD.one (i := 5) (l' := (lb 8 63)) (oA B120 [1, 1, 1, 1, 1, 1, 1, 1, 0] 5) (by kernel_rfl) (by kernel_rfl) (by kernel_rfl) ?_
                    refine X.simple (by kernel_rfl) ?_
                    refine X.back ⟨⟨⟨fun _ h => (by cases h; rfl), rfl⟩, trivial⟩, Le.refl _, rfl, ?_⟩
                    refine XD.take (i := 6) (l' := (lb 8 127)) (oA B120 [1, 1, 1, 1, 1, 1, 1, 1, 0] 6) (.v (.int .i64 (ns.getD 1 0))) QOk.ctxG (by kernel_rfl) (by kernel_rfl) (by kernel_rfl) (by kernel_rfl) (by kernel_rfl) ?_
                    refine XD.take (i := 7) (l' := (lb 8 255)) (oA B120 [1, 1, 1, 1, 1, 1, 1, 1, 0] 7) (.v (.int .i64 0)) QOk.ctxG (by kernel_rfl) (by kernel_rfl) (by kernel_rfl) (by kernel_rfl) (by kernel_rfl) ?_
                    refine XD.done (by kernel_rfl) ?_
                    refine X.run 2 [2, 3, 4] [2] (.ex .ret) [] ⟨88, [(2, .own 2 0), (3, .v (.int .i64 (ns.getD 1 0))), (4, .v (.int .i64 0))], [(2, ⟨65, [.v (.int .i64 (ns.getD 0 0)), .v (.slice A40 (ys16.length / 3) c40), .v (.string ByteArray.empty)]⟩)]⟩ (by kernel_rfl) ?_
                    refine doneG (.inl rfl) [.agg #[.int .i64 (ns.getD 0 0), .slice A40 (ys16.length / 3) c40, .string ByteArray.empty], .int .i64 (ns.getD 1 0), .int .i64 0] [40] (by kernel_rfl) rfl rfl (hG40) ?_
                    -- end 18 (FFFFFTFFF)
                    have hsz_ : szk (ns.getD 0 0) = 3 := by rw [show (ns.getD 0 0) = 172 by assumption]; rfl
                    have hyl_ : ys16.length = (ns.getD 1 0).toNat - 2 := by rw [← hys16, List.length_drop, List.length_take]; omega
                    have hok_ := okP_lit (m := (ns.getD 1 0).toNat - 2) hsz_ (by decide) (show lk2 (ns.getD 0 0) = 0 by rw [show (ns.getD 0 0) = 172 by assumption]; rfl) (show mk2 (ns.getD 0 0) = 3 by rw [show (ns.getD 0 0) = 172 by assumption]; rfl)
                    rw [decide_eq_true (by omega)] at hok_
                    have he_ : oneE ns = 0 := oneE_fine (by omega) (by omega) (by omega) hok_
                    have hn_ : oneN ns = ns.getD 1 0 := by unfold oneN; rw [if_pos he_]
                    have ho_ : oneO ns = ((ns.getD 0 0), numsOf ys16 3 (ys16.length / 3), ⟨#[]⟩) := by unfold oneO optS; rw [if_pos he_, hsz_, if_neg (by decide), show inB ns = ys16 from hys16]; rfl
                    rw [he_, hn_, ho_]
                    simp only [numsOf_len]
                    exact ⟨_, _, rfl, rfl⟩
            · -- slot 10: (ns.getD 0 0) == 172 is False
              replace h36 : (ns.getD 0 0) ≠ 172 := by simpa using h36
              refine X.run 6 [2, 3, 4, 10] [1002, 1005] (.code (cA B108 [1, 0, 1, 0, 1, 1, 1, 1, 1])) [.blk 0, .seq (cA B108 [1, 1])] ⟨13, [(2, .v (.int .i64 0)), (3, .v (.int .i64 0)), (4, .v (.int .i64 0)), (10, .v (.bool ((ns.getD 0 0) == 174)))], [(1002, ⟨65, [.v (.int .i64 0), .v (.slice none 0 0), .v (.string ByteArray.empty)]⟩), (1005, ⟨65, [.v (.int .i64 (ns.getD 0 0)), .v (.slice none 0 0), .v (.string ByteArray.empty)]⟩)]⟩ (by kernel_rfl) ?_
              refine X.split 10 rfl (fun h45 => ?_) (fun h45 => ?_)
              · -- slot 10: (ns.getD 0 0) == 174 is True
                replace h45 : (ns.getD 0 0) = 174 := by simpa using h45
                refine X.run 11 [2, 3, 4] [1002, 1005] (.ex .ret) [] ⟨13, [(2, .v (.int .i64 3)), (3, .v (.int .i64 0)), (4, .v (.int .i64 3))], [(1002, ⟨65, [.v (.int .i64 0), .v (.slice none 0 0), .v (.string ByteArray.empty)]⟩), (1005, ⟨65, [.v (.int .i64 (ns.getD 0 0)), .v (.slice none 0 0), .v (.string ByteArray.empty)]⟩)]⟩ (by kernel_rfl) ?_
                refine fin17 _ _ _ _ [.int .i64 3, .int .i64 0, .int .i64 3] [(2, ⟨65, [.v (.int .i64 0), .v (.slice none 0 0), .v (.string ByteArray.empty)]⟩), (5, ⟨65, [.v (.int .i64 (ns.getD 0 0)), .v (.slice none 0 0), .v (.string ByteArray.empty)]⟩)] (.inl rfl) (by kernel_rfl) (by kernel_rfl) ?_
                refine X.run 26 [0, 2, 3, 4, 5, 6, 7, 8, 9, 60] [2, 5] (.ops (aA B120 [1, 1, 1, 1, 1, 1, 0, 0]) (oA B120 [1, 1, 1, 1, 1, 1, 0, 0] 4 :: lA B120 [1, 1, 1, 1, 1, 1, 0, 0] 5)) [.seq (cA B120 [1, 1, 1, 1, 1, 1, 0, 1]), .seq (cA B120 [1, 1, 1, 1, 1, 1, 1])] ⟨88, [(0, .v (.slice A ns.length c)), (2, .own 2 0), (3, .v (.int .i64 0)), (4, .v (.int .i64 0)), (5, .own 5 0), (6, .v (.slice A16 ys16.length (c - 2))), (7, .v (.int .i64 3)), (8, .v (.int .i64 0)), (9, .v (.int .i64 3)), (60, .v (.int .i64 (Int.tmod ((ys16.length : Nat) : Int) 3)))], [(2, ⟨65, [.v (.int .i64 0), .v (.slice none 0 0), .v (.string ByteArray.empty)]⟩), (5, ⟨65, [.v (.int .i64 (ns.getD 0 0)), .v (.slice none 0 0), .v (.string ByteArray.empty)]⟩)]⟩ (by kernel_rfl) ?_
                refine X.known 60 (y := .v (.int .i64 (((ys16.length : Nat) : Int) % 3))) rfl (congrArg (fun z_ => AV.v (.int .i64 z_)) (Int.tmod_eq_emod_of_nonneg (by omega))) ?_
                refine X.run 2 [0, 2, 3, 4, 5, 6, 7, 8, 9, 62] [2, 5] (.ops (aA B120 [1, 1, 1, 1, 1, 1, 0, 0]) (oA B120 [1, 1, 1, 1, 1, 1, 0, 0] 6 :: lA B120 [1, 1, 1, 1, 1, 1, 0, 0] 7)) [.seq (cA B120 [1, 1, 1, 1, 1, 1, 0, 1]), .seq (cA B120 [1, 1, 1, 1, 1, 1, 1])] ⟨88, [(0, .v (.slice A ns.length c)), (2, .own 2 0), (3, .v (.int .i64 0)), (4, .v (.int .i64 0)), (5, .own 5 0), (6, .v (.slice A16 ys16.length (c - 2))), (7, .v (.int .i64 3)), (8, .v (.int .i64 0)), (9, .v (.int .i64 3)), (62, .v (.bool ((((ys16.length : Nat) : Int) % 3) != 0)))], [(2, ⟨65, [.v (.int .i64 0), .v (.slice none 0 0), .v (.string ByteArray.empty)]⟩), (5, ⟨65, [.v (.int .i64 (ns.getD 0 0)), .v (.slice none 0 0), .v (.string ByteArray.empty)]⟩)]⟩ (by kernel_rfl) ?_
                refine X.split 62 rfl (fun h46 => ?_) (fun h46 => ?_)
                · -- slot 62: (((ys16.length : Nat) : Int) % 3) != 0 is True
                  replace h46 : (((ys16.length : Nat) : Int) % 3) ≠ 0 := by simpa using h46
                  refine X.run 28 [2, 3, 4] [2] (.ex .ret) [] ⟨88, [(2, .own 2 0), (3, .v (.int .i64 0)), (4, .v (.int .i64 5))], [(2, ⟨65, [.v (.int .i64 (ns.getD 0 0)), .v (.slice none 0 0), .v (.string ByteArray.empty)]⟩)]⟩ (by kernel_rfl) ?_
                  refine X.nilRow 900 29 1 rfl ?_
                  refine doneG (.inl rfl) [.agg #[.int .i64 (ns.getD 0 0), .slice none 0 0, .string ByteArray.empty], .int .i64 0, .int .i64 5] [900] (by kernel_rfl) rfl rfl (Ge.refl _ _) ?_
                  -- end 20 (FFFFFFTT)
                  have hsz_ : szk (ns.getD 0 0) = 3 := by rw [show (ns.getD 0 0) = 174 by assumption]; rfl
                  have hyl_ : ys16.length = (ns.getD 1 0).toNat - 2 := by rw [← hys16, List.length_drop, List.length_take]; omega
                  have hok_ := okP_lit (m := (ns.getD 1 0).toNat - 2) hsz_ (by decide) (show lk2 (ns.getD 0 0) = 0 by rw [show (ns.getD 0 0) = 174 by assumption]; rfl) (show mk2 (ns.getD 0 0) = 3 by rw [show (ns.getD 0 0) = 174 by assumption]; rfl)
                  rw [decide_eq_false (by omega)] at hok_
                  have he_ : oneE ns = 5 := oneE_form (by omega) (by omega) (by omega) hok_
                  have hn_ : oneN ns = 0 := by unfold oneN; rw [if_neg (by rw [he_]; decide)]
                  have ho_ : oneO ns = ((ns.getD 0 0), [], ⟨#[]⟩) := by unfold oneO; rw [if_neg (by rw [he_]; decide)]
                  rw [he_, hn_, ho_]
                  exact ⟨none, 0, rfl, rfl⟩
                · -- slot 62: (((ys16.length : Nat) : Int) % 3) != 0 is False
                  replace h46 : (((ys16.length : Nat) : Int) % 3) = 0 := by simpa using h46
                  refine X.run 4 [0, 2, 3, 4, 5, 6, 7, 8, 9, 62, 66] [2, 5] (.ops (aA B120 [1, 1, 1, 1, 1, 1, 0, 0]) (oA B120 [1, 1, 1, 1, 1, 1, 0, 0] 10 :: lA B120 [1, 1, 1, 1, 1, 1, 0, 0] 11)) [.seq (cA B120 [1, 1, 1, 1, 1, 1, 0, 1]), .seq (cA B120 [1, 1, 1, 1, 1, 1, 1])] ⟨88, [(0, .v (.slice A ns.length c)), (2, .own 2 0), (3, .v (.int .i64 0)), (4, .v (.int .i64 0)), (5, .own 5 0), (6, .v (.slice A16 ys16.length (c - 2))), (7, .v (.int .i64 3)), (8, .v (.int .i64 0)), (9, .v (.int .i64 3)), (62, .v (.bool false)), (66, .v (.int .i64 (IntKind.i64.wrap (Int.tdiv ((ys16.length : Nat) : Int) 3))))], [(2, ⟨65, [.v (.int .i64 0), .v (.slice none 0 0), .v (.string ByteArray.empty)]⟩), (5, ⟨65, [.v (.int .i64 (ns.getD 0 0)), .v (.slice none 0 0), .v (.string ByteArray.empty)]⟩)]⟩ (by kernel_rfl) ?_
                  refine X.known 66 (y := .v (.int .i64 (((ys16.length : Nat) : Int) / 3))) rfl (congrArg (fun z_ => AV.v (.int .i64 z_)) (wdiv_i64 (by omega) (by omega) (by omega))) ?_
                  refine X.run 4 [0, 2, 3, 4, 5, 6, 7, 9, 70] [2, 5] (.ops (aA B120 [1, 1, 1, 1, 1, 1, 0, 0]) (oA B120 [1, 1, 1, 1, 1, 1, 0, 0] 14 :: lA B120 [1, 1, 1, 1, 1, 1, 0, 0] 15)) [.seq (cA B120 [1, 1, 1, 1, 1, 1, 0, 1]), .seq (cA B120 [1, 1, 1, 1, 1, 1, 1])] ⟨88, [(0, .v (.slice A ns.length c)), (2, .own 2 0), (3, .v (.int .i64 0)), (4, .v (.int .i64 0)), (5, .own 5 0), (6, .v (.slice A16 ys16.length (c - 2))), (7, .v (.int .i64 3)), (9, .v (.int .i64 3)), (70, .v (.bool (decide (((ys16.length : Nat) : Int) / 3 < 0))))], [(2, ⟨65, [.v (.int .i64 0), .v (.slice none 0 0), .v (.string ByteArray.empty)]⟩), (5, ⟨65, [.v (.int .i64 (ns.getD 0 0)), .v (.slice none 0 0), .v (.string ByteArray.empty)]⟩)]⟩ (by kernel_rfl) ?_
                  refine X.split 70 rfl (fun h47 => ?_) (fun h47 => ?_)
                  · -- slot 70: decide (((ys16.length : Nat) : Int) / 3 < 0) is True
                    replace h47 : ((ys16.length : Nat) : Int) / 3 < 0 := of_decide_eq_true h47
                    refine X.run 20 [2, 3, 4] [2] (.ex .ret) [] ⟨88, [(2, .own 2 0), (3, .v (.int .i64 0)), (4, .v (.int .i64 5))], [(2, ⟨65, [.v (.int .i64 (ns.getD 0 0)), .v (.slice none 0 0), .v (.string ByteArray.empty)]⟩)]⟩ (by kernel_rfl) ?_
                    refine X.nilRow 900 29 1 rfl ?_
                    refine doneG (.inl rfl) [.agg #[.int .i64 (ns.getD 0 0), .slice none 0 0, .string ByteArray.empty], .int .i64 0, .int .i64 5] [900] (by kernel_rfl) rfl rfl (Ge.refl _ _) ?_
                    -- end 21 (FFFFFFTFT)
                    have hsz_ : szk (ns.getD 0 0) = 3 := by rw [show (ns.getD 0 0) = 174 by assumption]; rfl
                    have hyl_ : ys16.length = (ns.getD 1 0).toNat - 2 := by rw [← hys16, List.length_drop, List.length_take]; omega
                    have hok_ := okP_lit (m := (ns.getD 1 0).toNat - 2) hsz_ (by decide) (show lk2 (ns.getD 0 0) = 0 by rw [show (ns.getD 0 0) = 174 by assumption]; rfl) (show mk2 (ns.getD 0 0) = 3 by rw [show (ns.getD 0 0) = 174 by assumption]; rfl)
                    rw [decide_eq_false (by omega)] at hok_
                    have he_ : oneE ns = 5 := oneE_form (by omega) (by omega) (by omega) hok_
                    have hn_ : oneN ns = 0 := by unfold oneN; rw [if_neg (by rw [he_]; decide)]
                    have ho_ : oneO ns = ((ns.getD 0 0), [], ⟨#[]⟩) := by unfold oneO; rw [if_neg (by rw [he_]; decide)]
                    rw [he_, hn_, ho_]
                    exact ⟨none, 0, rfl, rfl⟩
                  · -- slot 70: decide (((ys16.length : Nat) : Int) / 3 < 0) is False
                    replace h47 : ¬ (((ys16.length : Nat) : Int) / 3 < 0) := of_decide_eq_false h47
                    refine X.run 4 [0, 2, 3, 4, 5, 6, 7, 9, 70, 74] [2, 5] (.ops (aA B120 [1, 1, 1, 1, 1, 1, 0, 0]) (oA B120 [1, 1, 1, 1, 1, 1, 0, 0] 18 :: lA B120 [1, 1, 1, 1, 1, 1, 0, 0] 19)) [.seq (cA B120 [1, 1, 1, 1, 1, 1, 0, 1]), .seq (cA B120 [1, 1, 1, 1, 1, 1, 1])] ⟨88, [(0, .v (.slice A ns.length c)), (2, .own 2 0), (3, .v (.int .i64 0)), (4, .v (.int .i64 0)), (5, .own 5 0), (6, .v (.slice A16 ys16.length (c - 2))), (7, .v (.int .i64 3)), (9, .v (.int .i64 3)), (70, .v (.bool false)), (74, .v (.int .i64 (IntKind.i64.wrap (Int.tdiv ((ys16.length : Nat) : Int) 3))))], [(2, ⟨65, [.v (.int .i64 0), .v (.slice none 0 0), .v (.string ByteArray.empty)]⟩), (5, ⟨65, [.v (.int .i64 (ns.getD 0 0)), .v (.slice none 0 0), .v (.string ByteArray.empty)]⟩)]⟩ (by kernel_rfl) ?_
                    refine X.known 74 (y := .v (.int .i64 (((ys16.length : Nat) : Int) / 3))) rfl (congrArg (fun z_ => AV.v (.int .i64 z_)) (wdiv_i64 (by omega) (by omega) (by omega))) ?_
                    refine X.run 5 [0, 2, 3, 4, 5, 6, 7, 77] [2, 5] (.code (cA B120 [1, 1, 1, 1, 1, 1, 0, 1])) [.seq (cA B120 [1, 1, 1, 1, 1, 1, 1])] ⟨88, [(0, .v (.slice A ns.length c)), (2, .own 2 0), (3, .v (.int .i64 0)), (4, .v (.int .i64 0)), (5, .own 5 0), (6, .v (.slice A16 ys16.length (c - 2))), (7, .v (.int .i64 3)), (77, .v (.bool (decide (((ys16.length : Nat) : Int) / 3 > 3))))], [(2, ⟨65, [.v (.int .i64 0), .v (.slice none 0 0), .v (.string ByteArray.empty)]⟩), (5, ⟨65, [.v (.int .i64 (ns.getD 0 0)), .v (.slice none 0 0), .v (.string ByteArray.empty)]⟩)]⟩ (by kernel_rfl) ?_
                    refine X.split 77 rfl (fun h48 => ?_) (fun h48 => ?_)
                    · -- slot 77: decide (((ys16.length : Nat) : Int) / 3 > 3) is True
                      replace h48 : ((ys16.length : Nat) : Int) / 3 > 3 := of_decide_eq_true h48
                      refine X.run 11 [2, 3, 4] [2] (.ex .ret) [] ⟨88, [(2, .own 2 0), (3, .v (.int .i64 0)), (4, .v (.int .i64 5))], [(2, ⟨65, [.v (.int .i64 (ns.getD 0 0)), .v (.slice none 0 0), .v (.string ByteArray.empty)]⟩)]⟩ (by kernel_rfl) ?_
                      refine X.nilRow 900 29 1 rfl ?_
                      refine doneG (.inl rfl) [.agg #[.int .i64 (ns.getD 0 0), .slice none 0 0, .string ByteArray.empty], .int .i64 0, .int .i64 5] [900] (by kernel_rfl) rfl rfl (Ge.refl _ _) ?_
                      -- end 22 (FFFFFFTFFT)
                      have hsz_ : szk (ns.getD 0 0) = 3 := by rw [show (ns.getD 0 0) = 174 by assumption]; rfl
                      have hyl_ : ys16.length = (ns.getD 1 0).toNat - 2 := by rw [← hys16, List.length_drop, List.length_take]; omega
                      have hok_ := okP_lit (m := (ns.getD 1 0).toNat - 2) hsz_ (by decide) (show lk2 (ns.getD 0 0) = 0 by rw [show (ns.getD 0 0) = 174 by assumption]; rfl) (show mk2 (ns.getD 0 0) = 3 by rw [show (ns.getD 0 0) = 174 by assumption]; rfl)
                      rw [decide_eq_false (by omega)] at hok_
                      have he_ : oneE ns = 5 := oneE_form (by omega) (by omega) (by omega) hok_
                      have hn_ : oneN ns = 0 := by unfold oneN; rw [if_neg (by rw [he_]; decide)]
                      have ho_ : oneO ns = ((ns.getD 0 0), [], ⟨#[]⟩) := by unfold oneO; rw [if_neg (by rw [he_]; decide)]
                      rw [he_, hn_, ho_]
                      exact ⟨none, 0, rfl, rfl⟩
                    · -- slot 77: decide (((ys16.length : Nat) : Int) / 3 > 3) is False
                      replace h48 : ¬ (((ys16.length : Nat) : Int) / 3 > 3) := of_decide_eq_false h48
                      refine X.run 7 [0, 2, 3, 4, 5, 79, 80] [2, 5] (.ops (aA B120 [1, 1, 1, 1, 1, 1, 1, 0]) (oA B120 [1, 1, 1, 1, 1, 1, 1, 0] 2 :: lA B120 [1, 1, 1, 1, 1, 1, 1, 0] 3)) [.seq (cA B120 [1, 1, 1, 1, 1, 1, 1, 1])] ⟨88, [(0, .v (.slice A ns.length c)), (2, .own 2 0), (3, .v (.int .i64 0)), (4, .v (.int .i64 0)), (5, .own 5 0), (79, .v (.slice A16 ys16.length (c - 2))), (80, .v (.int .i64 3))], [(2, ⟨65, [.v (.int .i64 0), .v (.slice none 0 0), .v (.string ByteArray.empty)]⟩), (5, ⟨65, [.v (.int .i64 (ns.getD 0 0)), .v (.slice none 0 0), .v (.string ByteArray.empty)]⟩)]⟩ (by kernel_rfl) ?_
                      obtain ⟨nb49, no49, hnA49⟩ := cutA_addr (c := c) (lo := 2) (sz := 1) hA0
                      rw [hA16] at hnA49
                      refine X.callG (f := 157) (l := [.v (.slice A16 ys16.length (c - 2)), .v (.int .i64 3)]) [.slice A16 ys16.length (c - 2), .int .i64 3] 40 (by kernel_rfl) (by kernel_rfl) (by kernel_rfl) (numbers_okA hnA49 (c - 2) 3 (ys16.length / 3) ys16 (by decide) (by decide) (by omega) (by omega) (by omega) _ hr16) ?_
                      rintro v49 G49 rows49 hG49 ⟨A49, c49, rfl, rfl⟩
                      replace hr := hr.mono hG49.le
                      replace hr16 := hr16.mono hG49.le
                      refine X.asR (R' := [(40, ⟨29, 1, .slice A49 (ys16.length / 3) c49, (ys16.length / 3), (numsOf ys16 3 (ys16.length / 3)).map (Value.int .u32)⟩)]) rfl ?_
                      refine X.run 5 [0, 2, 3, 4, 5] [2, 5] (.code (cA B120 [1, 1, 1, 1, 1, 1, 1, 1, 0])) [.seq (cA B120 [1, 1, 1, 1, 1, 1, 1, 1, 1])] ⟨88, [(0, .v (.slice A ns.length c)), (2, .own 2 0), (3, .v (.int .i64 0)), (4, .v (.int .i64 0)), (5, .own 5 0)], [(2, ⟨65, [.v (.int .i64 0), .v (.slice none 0 0), .v (.string ByteArray.empty)]⟩), (5, ⟨65, [.v (.int .i64 (ns.getD 0 0)), .v (.slice A49 (ys16.length / 3) c49), .v (.string ByteArray.empty)]⟩)]⟩ (by kernel_rfl) ?_
                      have hr_d50 := hr
                      have hr16_d50 := hr16
                      refine XD.open (id := 16) (arr := aA B120 [1, 1, 1, 1, 1, 1, 1, 1, 0]) 8 [⟨some 5, 5, 65, [.v (.int .i64 (ns.getD 0 0)), .v (.slice A49 (ys16.length / 3) c49), .v (.string ByteArray.empty)]⟩] [] [] (by kernel_rfl) (by kernel_rfl) (by kernel_rfl) (by kernel_rfl) (by kernel_rfl) ⟨⟨fun _ h => (by cases h; rfl), rfl⟩, trivial⟩ (by intro p hp hn; simp only [List.mem_cons, List.not_mem_nil, or_false] at hp; rcases hp with rfl <;> first | (cases hn; done) | exact absurd _ (Nat.le_of_ble_eq_true rfl)) rfl (fun ρ0 => ?_)
                      refine XD.take (i := 0) (l' := (lb 8 1)) (oA B120 [1, 1, 1, 1, 1, 1, 1, 1, 0] 0) (.v (.agg #[.int .i64 (ns.getD 0 0), .slice A49 (ys16.length / 3) c49, .string ByteArray.empty])) QOk.ctxG (by kernel_rfl) (by kernel_rfl) (by kernel_rfl) (by kernel_rfl) (by kernel_rfl) ?_
                      refine XD.take (i := 1) (l' := (lb 8 3)) (oA B120 [1, 1, 1, 1, 1, 1, 1, 1, 0] 1) (.v (.slice A ns.length c)) QOk.ctxG (by kernel_rfl) (by kernel_rfl) (by kernel_rfl) (by kernel_rfl) (by kernel_rfl) ?_
                      have b51 : (0 : Int) ≤ 1 := by omega
                      have b52 : 1 < ((ns.length : Nat) : Int) := by omega
                      obtain ⟨at53, lo53, hi53⟩ := At.int [] hr_d50 1 (by omega)
                      simp only [IntKind.lo, IntKind.hi] at lo53 hi53
                      refine XD.index (i := 2) (l' := (lb 8 7)) (o := (oA B120 [1, 1, 1, 1, 1, 1, 1, 1, 0] 2)) (t := 22) (e := 5) (sz := 1) (A := A) (n := ns.length) (c := c) (ki := .i64) (j := 1) (x := .tmp 84) (ix := .const (.int .i64 1)) QOk.ctxG (by kernel_rfl) (by kernel_rfl) (by kernel_rfl) (by kernel_rfl) (by kernel_rfl) (by kernel_rfl) (by kernel_rfl) (by kernel_rfl) b51 b52 (fun _ _ => rowAt.so hr_d50 (by omega)) (by kernel_rfl) ?_
                      refine XD.load (i := 3) (l' := (lb 8 15)) (o := (oA B120 [1, 1, 1, 1, 1, 1, 1, 1, 0] 3)) (t := 5) (A := A) (j := 1 * 1) (x := .tmp 85) (z := .int .u8 (ns.getD 1 0)) [.int .u8 (ns.getD 1 0)] QOk.ctxG (by kernel_rfl) (by kernel_rfl) (by kernel_rfl) (by kernel_rfl) (by kernel_rfl) at53 (by kernel_rfl) (by kernel_rfl) ?_
                      refine XD.take (i := 4) (l' := (lb 8 31)) (oA B120 [1, 1, 1, 1, 1, 1, 1, 1, 0] 4) (.v (.int .i64 (IntKind.i64.wrap (ns.getD 1 0)))) QOk.ctxG (by kernel_rfl) (by kernel_rfl) (by kernel_rfl) (by kernel_rfl) (by kernel_rfl) ?_
                      refine XD.known 87 (y := .v (.int .i64 (ns.getD 1 0))) rfl (congrArg (fun z_ => AV.v (.int .i64 z_)) (wi64 (by omega) (by omega))) ?_
                      refine XD.norm [2, 3, 4, 5, 83, 87] [2, 5] ⟨88, [(2, .own 2 0), (3, .v (.int .i64 0)), (4, .v (.int .i64 0)), (5, .own 5 0), (83, .v (.agg #[.int .i64 (ns.getD 0 0), .slice A49 (ys16.length / 3) c49, .string ByteArray.empty])), (87, .v (.int .i64 (ns.getD 1 0)))], [(2, ⟨65, [.v (.int .i64 0), .v (.slice none 0 0), .v (.string ByteArray.empty)]⟩), (5, ⟨65, [.v (.int .i64 (ns.getD 0 0)), .v (.slice A49 (ys16.length / 3) c49), .v (.string ByteArray.empty)]⟩)]⟩ (by kernel_rfl) ⟨⟨fun _ h => (by cases h; rfl), rfl⟩, trivial⟩ ?_
                      refine XD.one (i := 5) (l' := (lb 8 63)) (oA B120 [1, 1, 1, 1, 1, 1, 1, 1, 0] 5) (by kernel_rfl) (by kernel_rfl) (by kernel_rfl) ?_
                      refine X.simple (by kernel_rfl) ?_
                      refine X.back ⟨⟨⟨fun _ h => (by cases h; rfl), rfl⟩, trivial⟩, Le.refl _, rfl, ?_⟩
                      refine XD.take (i := 6) (l' := (lb 8 127)) (oA B120 [1, 1, 1, 1, 1, 1, 1, 1, 0] 6) (.v (.int .i64 (ns.getD 1 0))) QOk.ctxG (by kernel_rfl) (by kernel_rfl) (by kernel_rfl) (by kernel_rfl) (by kernel_rfl) ?_
                      refine XD.take (i := 7) (l' := (lb 8 255)) (oA B120 [1, 1, 1, 1, 1, 1, 1, 1, 0] 7) (.v (.int .i64 0)) QOk.ctxG (by kernel_rfl) (by kernel_rfl) (by kernel_rfl) (by kernel_rfl) (by kernel_rfl) ?_
                      refine XD.done (by kernel_rfl) ?_
                      refine X.run 2 [2, 3, 4] [2] (.ex .ret) [] ⟨88, [(2, .own 2 0), (3, .v (.int .i64 (ns.getD 1 0))), (4, .v (.int .i64 0))], [(2, ⟨65, [.v (.int .i64 (ns.getD 0 0)), .v (.slice A49 (ys16.length / 3) c49), .v (.string ByteArray.empty)]⟩)]⟩ (by kernel_rfl) ?_
                      refine doneG (.inl rfl) [.agg #[.int .i64 (ns.getD 0 0), .slice A49 (ys16.length / 3) c49, .string ByteArray.empty], .int .i64 (ns.getD 1 0), .int .i64 0] [40] (by kernel_rfl) rfl rfl (hG49) ?_
                      -- end 23 (FFFFFFTFFF)
                      have hsz_ : szk (ns.getD 0 0) = 3 := by rw [show (ns.getD 0 0) = 174 by assumption]; rfl
                      have hyl_ : ys16.length = (ns.getD 1 0).toNat - 2 := by rw [← hys16, List.length_drop, List.length_take]; omega
                      have hok_ := okP_lit (m := (ns.getD 1 0).toNat - 2) hsz_ (by decide) (show lk2 (ns.getD 0 0) = 0 by rw [show (ns.getD 0 0) = 174 by assumption]; rfl) (show mk2 (ns.getD 0 0) = 3 by rw [show (ns.getD 0 0) = 174 by assumption]; rfl)
                      rw [decide_eq_true (by omega)] at hok_
                      have he_ : oneE ns = 0 := oneE_fine (by omega) (by omega) (by omega) hok_
                      have hn_ : oneN ns = ns.getD 1 0 := by unfold oneN; rw [if_pos he_]
                      have ho_ : oneO ns = ((ns.getD 0 0), numsOf ys16 3 (ys16.length / 3), ⟨#[]⟩) := by unfold oneO optS; rw [if_pos he_, hsz_, if_neg (by decide), show inB ns = ys16 from hys16]; rfl
                      rw [he_, hn_, ho_]
                      simp only [numsOf_len]
                      exact ⟨_, _, rfl, rfl⟩
              · -- slot 10: (ns.getD 0 0) == 174 is False
                replace h45 : (ns.getD 0 0) ≠ 174 := by simpa using h45
                refine X.run 12 [2, 3, 4] [1002, 1005] (.ex .ret) [] ⟨13, [(2, .v (.int .i64 0)), (3, .v (.int .i64 0)), (4, .v (.int .i64 0))], [(1002, ⟨65, [.v (.int .i64 0), .v (.slice none 0 0), .v (.string ByteArray.empty)]⟩), (1005, ⟨65, [.v (.int .i64 (ns.getD 0 0)), .v (.slice none 0 0), .v (.string ByteArray.empty)]⟩)]⟩ (by kernel_rfl) ?_
                refine fin17 _ _ _ _ [.int .i64 0, .int .i64 0, .int .i64 0] [(2, ⟨65, [.v (.int .i64 0), .v (.slice none 0 0), .v (.string ByteArray.empty)]⟩), (5, ⟨65, [.v (.int .i64 (ns.getD 0 0)), .v (.slice none 0 0), .v (.string ByteArray.empty)]⟩)] (.inl rfl) (by kernel_rfl) (by kernel_rfl) ?_
                refine X.run 20 [0, 2, 3, 4, 5, 6, 7, 8, 9, 49] [2, 5] (.ops (aA B120 [1, 1, 1, 1, 1, 0, 1, 0, 0]) (oA B120 [1, 1, 1, 1, 1, 0, 1, 0, 0] 1 :: lA B120 [1, 1, 1, 1, 1, 0, 1, 0, 0] 2)) [.seq (cA B120 [1, 1, 1, 1, 1, 0, 1, 0, 1]), .seq (cA B120 [1, 1, 1, 1, 1, 1])] ⟨88, [(0, .v (.slice A ns.length c)), (2, .own 2 0), (3, .v (.int .i64 0)), (4, .v (.int .i64 0)), (5, .own 5 0), (6, .v (.slice A16 ys16.length (c - 2))), (7, .v (.int .i64 0)), (8, .v (.int .i64 0)), (9, .v (.int .i64 0)), (49, .v (.slice A16 ys16.length (c - 2)))], [(2, ⟨65, [.v (.int .i64 0), .v (.slice none 0 0), .v (.string ByteArray.empty)]⟩), (5, ⟨65, [.v (.int .i64 (ns.getD 0 0)), .v (.slice none 0 0), .v (.string ByteArray.empty)]⟩)]⟩ (by kernel_rfl) ?_
                refine X.toStrW (src := 22) (dst := 9) (e := 5) (n := ys16.length) (c := c - 2) (A := A16) (x := .tmp 49) ys16 (by kernel_rfl) (by kernel_rfl) (by kernel_rfl) (by kernel_rfl) (by kernel_rfl) rfl (at_ints [] hr16) (fun w hw e => rowAt.none hr16 e) (by kernel_rfl) ?_
                refine X.run 5 [0, 2, 3, 4, 5, 6, 7, 8, 9] [2, 5] (.code (cA B120 [1, 1, 1, 1, 1, 0, 1, 0, 1, 0])) [.seq (cA B120 [1, 1, 1, 1, 1, 0, 1, 0, 1, 1]), .seq (cA B120 [1, 1, 1, 1, 1, 1])] ⟨88, [(0, .v (.slice A ns.length c)), (2, .own 2 0), (3, .v (.int .i64 0)), (4, .v (.int .i64 0)), (5, .own 5 0), (6, .v (.slice A16 ys16.length (c - 2))), (7, .v (.int .i64 0)), (8, .v (.int .i64 0)), (9, .v (.int .i64 0))], [(2, ⟨65, [.v (.int .i64 0), .v (.slice none 0 0), .v (.string ByteArray.empty)]⟩), (5, ⟨65, [.v (.int .i64 (ns.getD 0 0)), .v (.slice none 0 0), .v (.string (strOf ys16))]⟩)]⟩ (by kernel_rfl) ?_
                have hr_d54 := hr
                have hr16_d54 := hr16
                refine XD.open (id := 12) (arr := aA B120 [1, 1, 1, 1, 1, 0, 1, 0, 1, 0]) 8 [⟨some 5, 5, 65, [.v (.int .i64 (ns.getD 0 0)), .v (.slice none 0 0), .v (.string (strOf ys16))]⟩] [] [] (by kernel_rfl) (by kernel_rfl) (by kernel_rfl) (by kernel_rfl) (by kernel_rfl) ⟨⟨fun _ h => (by cases h; rfl), rfl⟩, trivial⟩ (by intro p hp hn; simp only [List.mem_cons, List.not_mem_nil, or_false] at hp; rcases hp with rfl <;> first | (cases hn; done) | exact absurd _ (Nat.le_of_ble_eq_true rfl)) rfl (fun ρ0 => ?_)
                refine XD.take (i := 0) (l' := (lb 8 1)) (oA B120 [1, 1, 1, 1, 1, 0, 1, 0, 1, 0] 0) (.v (.agg #[.int .i64 (ns.getD 0 0), .slice none 0 0, .string (strOf ys16)])) QOk.ctxG (by kernel_rfl) (by kernel_rfl) (by kernel_rfl) (by kernel_rfl) (by kernel_rfl) ?_
                refine XD.take (i := 1) (l' := (lb 8 3)) (oA B120 [1, 1, 1, 1, 1, 0, 1, 0, 1, 0] 1) (.v (.slice A ns.length c)) QOk.ctxG (by kernel_rfl) (by kernel_rfl) (by kernel_rfl) (by kernel_rfl) (by kernel_rfl) ?_
                have b55 : (0 : Int) ≤ 1 := by omega
                have b56 : 1 < ((ns.length : Nat) : Int) := by omega
                obtain ⟨at57, lo57, hi57⟩ := At.int [] hr_d54 1 (by omega)
                simp only [IntKind.lo, IntKind.hi] at lo57 hi57
                refine XD.index (i := 2) (l' := (lb 8 7)) (o := (oA B120 [1, 1, 1, 1, 1, 0, 1, 0, 1, 0] 2)) (t := 22) (e := 5) (sz := 1) (A := A) (n := ns.length) (c := c) (ki := .i64) (j := 1) (x := .tmp 53) (ix := .const (.int .i64 1)) QOk.ctxG (by kernel_rfl) (by kernel_rfl) (by kernel_rfl) (by kernel_rfl) (by kernel_rfl) (by kernel_rfl) (by kernel_rfl) (by kernel_rfl) b55 b56 (fun _ _ => rowAt.so hr_d54 (by omega)) (by kernel_rfl) ?_
                refine XD.load (i := 3) (l' := (lb 8 15)) (o := (oA B120 [1, 1, 1, 1, 1, 0, 1, 0, 1, 0] 3)) (t := 5) (A := A) (j := 1 * 1) (x := .tmp 54) (z := .int .u8 (ns.getD 1 0)) [.int .u8 (ns.getD 1 0)] QOk.ctxG (by kernel_rfl) (by kernel_rfl) (by kernel_rfl) (by kernel_rfl) (by kernel_rfl) at57 (by kernel_rfl) (by kernel_rfl) ?_
                refine XD.take (i := 4) (l' := (lb 8 31)) (oA B120 [1, 1, 1, 1, 1, 0, 1, 0, 1, 0] 4) (.v (.int .i64 (IntKind.i64.wrap (ns.getD 1 0)))) QOk.ctxG (by kernel_rfl) (by kernel_rfl) (by kernel_rfl) (by kernel_rfl) (by kernel_rfl) ?_
                refine XD.known 56 (y := .v (.int .i64 (ns.getD 1 0))) rfl (congrArg (fun z_ => AV.v (.int .i64 z_)) (wi64 (by omega) (by omega))) ?_
                refine XD.norm [0, 2, 3, 4, 5, 6, 7, 8, 9, 52, 56] [2, 5] ⟨88, [(0, .v (.slice A ns.length c)), (2, .own 2 0), (3, .v (.int .i64 0)), (4, .v (.int .i64 0)), (5, .own 5 0), (6, .v (.slice A16 ys16.length (c - 2))), (7, .v (.int .i64 0)), (8, .v (.int .i64 0)), (9, .v (.int .i64 0)), (52, .v (.agg #[.int .i64 (ns.getD 0 0), .slice none 0 0, .string (strOf ys16)])), (56, .v (.int .i64 (ns.getD 1 0)))], [(2, ⟨65, [.v (.int .i64 0), .v (.slice none 0 0), .v (.string ByteArray.empty)]⟩), (5, ⟨65, [.v (.int .i64 (ns.getD 0 0)), .v (.slice none 0 0), .v (.string (strOf ys16))]⟩)]⟩ (by kernel_rfl) ⟨⟨fun _ h => (by cases h; rfl), rfl⟩, trivial⟩ ?_
                refine XD.one (i := 5) (l' := (lb 8 63)) (oA B120 [1, 1, 1, 1, 1, 0, 1, 0, 1, 0] 5) (by kernel_rfl) (by kernel_rfl) (by kernel_rfl) ?_
                refine X.simple (by kernel_rfl) ?_
                refine X.back ⟨⟨⟨fun _ h => (by cases h; rfl), rfl⟩, trivial⟩, Le.refl _, rfl, ?_⟩
                refine XD.take (i := 6) (l' := (lb 8 127)) (oA B120 [1, 1, 1, 1, 1, 0, 1, 0, 1, 0] 6) (.v (.int .i64 (ns.getD 1 0))) QOk.ctxG (by kernel_rfl) (by kernel_rfl) (by kernel_rfl) (by kernel_rfl) (by kernel_rfl) ?_
                refine XD.take (i := 7) (l' := (lb 8 255)) (oA B120 [1, 1, 1, 1, 1, 0, 1, 0, 1, 0] 7) (.v (.int .i64 0)) QOk.ctxG (by kernel_rfl) (by kernel_rfl) (by kernel_rfl) (by kernel_rfl) (by kernel_rfl) ?_
                refine XD.done (by kernel_rfl) ?_
                refine X.run 3 [2, 3, 4] [2] (.ex .ret) [] ⟨88, [(2, .own 2 0), (3, .v (.int .i64 (ns.getD 1 0))), (4, .v (.int .i64 0))], [(2, ⟨65, [.v (.int .i64 (ns.getD 0 0)), .v (.slice none 0 0), .v (.string (strOf ys16))]⟩)]⟩ (by kernel_rfl) ?_
                refine X.nilRow 900 29 1 rfl ?_
                refine doneG (.inl rfl) [.agg #[.int .i64 (ns.getD 0 0), .slice none 0 0, .string (strOf ys16)], .int .i64 (ns.getD 1 0), .int .i64 0] [900] (by kernel_rfl) rfl rfl (Ge.refl _ _) ?_
                -- end 25 (FFFFFFF)
                have hsz_ : szk (ns.getD 0 0) = 0 := by unfold szk; rw [if_neg (by omega), if_neg (by omega), if_neg (by omega)]
                have hyl_ : ys16.length = (ns.getD 1 0).toNat - 2 := by rw [← hys16, List.length_drop, List.length_take]; omega
                have he_ : oneE ns = 0 := oneE_fine (by omega) (by omega) (by omega) (okP_free hsz_)
                have hn_ : oneN ns = ns.getD 1 0 := by unfold oneN; rw [if_pos he_]
                have ho_ : oneO ns = ((ns.getD 0 0), [], strOf ys16) := by unfold oneO optS; rw [if_pos he_, if_pos hsz_, show inB ns = ys16 from hys16]
                rw [he_, hn_, ho_]
                exact ⟨none, 0, rfl, rfl⟩
end Go.Proofs.YtjgpdbkkpomhjaaX
