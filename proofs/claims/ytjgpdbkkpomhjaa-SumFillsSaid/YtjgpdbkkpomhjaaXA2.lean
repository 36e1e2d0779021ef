/- slices.Clone of bytes -/
import Derived.Test.YtjgpdbkkpomhjaaProg
import Derived.KernelRfl
import Derived.Test.YtjgpdbkkpomhjaaXA1
import Derived.Test.YtjgpdbkkpomhjaaXM
namespace Go.Proofs.YtjgpdbkkpomhjaaX
open Go.RowKit
set_option linter.unusedVariables false
set_option linter.unusedSimpArgs false
set_option maxRecDepth 100000
/-- slices.Clone[[]byte,byte] -/
noncomputable def B102 : Code := bodyOf Try.f102
set_option maxHeartbeats 1000000 in
theorem Clone_ok (A : Option Addr) (c : Nat) (b : List Int) (G : Mem) (hb : rowAt (D.int .u8) G A b) (hle : b.length ≤ c) (hsz : b.length ≤ 140737488355328) : CallsG Try.prog 102 [.slice A b.length c] G (fun _ v rows => ∃ A' c', v = .slice A' b.length c' ∧ b.length ≤ c' ∧ rows = [⟨5, 1, .slice A' b.length c', b.length, b.map (Value.int .u8)⟩]) := by
  refine CallsG.enter Try.func102 rfl rfl ?_
  intro w
  refine X.run 9 [0, 2, 3] [] (.ops (aA B102 [1, 0, 0]) (oA B102 [1, 0, 0] 1 :: lA B102 [1, 0, 0] 2)) [.seq (cA B102 [1, 0, 1]), .seq (cA B102 [1, 1])] ⟨8, [(0, .v (.slice A b.length c)), (2, .v (.slice none 0 0)), (3, .v (.slice A b.length c))], []⟩ (by kernel_rfl) ?_
  refine X.eqNil (t := 22) (t' := 22) (e := 5) (n := b.length) (c := c) (A := A) (x := .tmp 3) (y := .const (.slice none 0 0)) (by kernel_rfl) (by kernel_rfl) (by kernel_rfl) (by kernel_rfl) (by kernel_rfl) (by kernel_rfl) ?_
  refine X.run 2 [0, 2, 4] [] (.code (cA B102 [1, 0, 1])) [.seq (cA B102 [1, 1])] ⟨8, [(0, .v (.slice A b.length c)), (2, .v (.slice none 0 0)), (4, .v (.bool A.isNone))], []⟩ (by kernel_rfl) ?_
  refine X.split 4 rfl (fun h1 => ?_) (fun h1 => ?_)
  · -- slot 4: A.isNone is True
    refine X.run 8 [2] [] (.ex .ret) [] ⟨8, [(2, .v (.slice none 0 0))], []⟩ (by kernel_rfl) ?_
    refine X.nilRow 99 5 1 rfl ?_
    refine doneG (.inl rfl) [.slice none 0 0] [99] (by kernel_rfl) rfl rfl (Ge.refl _ _) ?_
    -- end 1 (T)
    obtain rfl : b = [] := List.eq_nil_of_length_eq_zero (rowAt.none hb (by simpa using h1))
    exact ⟨none, 0, rfl, by simp, rfl⟩
  · -- slot 4: A.isNone is False
    refine X.run 5 [0, 2] [] (.ops (aA B102 [1, 1, 0]) (oA B102 [1, 1, 0] 0 :: lA B102 [1, 1, 0] 1)) [.seq (cA B102 [1, 1, 1])] ⟨8, [(0, .v (.slice A b.length c)), (2, .v (.slice none 0 0))], []⟩ (by kernel_rfl) ?_
    refine X.lit 5 5 1 0 [] (by kernel_rfl) (fun g => by kernel_rfl) ?_
    intro A2
    refine X.run 1 [2, 5, 6] [] (.ops (aA B102 [1, 1, 0]) (oA B102 [1, 1, 0] 2 :: lA B102 [1, 1, 0] 3)) [.seq (cA B102 [1, 1, 1])] ⟨8, [(2, .v (.slice none 0 0)), (5, .v (.slice A2 0 0)), (6, .v (.slice A b.length c))], []⟩ (by kernel_rfl) ?_
    refine X.appendW 5 ⟨5, 1, .slice A2 0 0, 0, []⟩ 22 1 (.int .u8 0) (x := .tmp 5) (y := .tmp 6) (n := 0) (c := 0) (m := b.length) (c2 := c) (A := A2) (B := A) (news := b.map (Value.int .u8)) (by kernel_rfl) (by kernel_rfl) (by kernel_rfl) (by kernel_rfl) (by kernel_rfl) rfl (Nat.succ_pos _) (by kernel_rfl) (.inl rfl) rfl rfl (by simp) (at_ints [(5, ⟨5, 1, .slice A2 0 0, 0, []⟩)] hb) (fun _ _ e => rowAt.none hb e) ones_ints (by omega) (by decide) ?_
    intro A3 c3 hc3
    refine X.tellR [5] (R' := [(5, ⟨5, 1, .slice A3 (0 + b.length) c3, 0 + b.length, [] ++ (b.map (Value.int .u8))⟩)]) rfl ?_
    refine X.run 4 [2] [] (.ex .ret) [] ⟨8, [(2, .v (.slice A3 (0 + b.length) c3))], []⟩ (by kernel_rfl) ?_
    refine doneG (.inl rfl) [.slice A3 (0 + b.length) c3] [5] (by kernel_rfl) rfl rfl (Ge.refl _ _) ?_
    -- end 2 (F)
    exact ⟨_, _, by rw [Nat.zero_add]; rfl, by omega, by simp⟩

theorem band_one {x : Int} (h0 : 0 ≤ x) (h1 : x ≤ 9223372036854775807) : band .i64 x 1 = x % 2 := by
  obtain ⟨n, rfl⟩ := Int.eq_ofNat_of_zero_le h0
  unfold band
  have e : (BitVec.ofInt 64 (n : Int) &&& BitVec.ofInt 64 1).toNat = n % 2 := by
    rw [BitVec.toNat_and, ofInt_nat (by omega), show (BitVec.ofInt 64 1).toNat = 1 from rfl, Nat.and_one_is_mod]
  show IntKind.i64.wrap ((BitVec.ofInt 64 (n : Int) &&& BitVec.ofInt 64 1).toNat : Int) = _
  rw [e]
  rw [wi64 (by omega) (by omega)]
  omega

def filled (b : List Int) (at_ : Int) : List Int := ((((b.set at_.toNat 0).set (at_ + 1).toNat 0).set at_.toNat (IntKind.u8.wrap (bshr .u16 (cks ((b.set at_.toNat 0).set (at_ + 1).toNat 0)) 8))).set (at_ + 1).toNat (IntKind.u8.wrap (cks ((b.set at_.toNat 0).set (at_ + 1).toNat 0))))

theorem bytes_set {l : List Int} (h : isBytes l) {i : Nat} {x : Int} (hx : 0 ≤ x ∧ x ≤ 255) : isBytes (l.set i x) := fun y hy => by
  rcases List.mem_or_eq_of_mem_set hy with h1 | rfl
  · exact h y h1
  · exact hx

/-- leat/sum.Fill -/
noncomputable def B40 : Code := bodyOf Try.f40
set_option maxHeartbeats 1000000 in
theorem Fill_ok (A : Option Addr) (c : Nat) (b : List Int) (at_ : Int) (G : Mem) (hb : rowAt (D.int .u8) G A b) (hle : b.length ≤ c) (hsz : b.length ≤ 300) (h0 : -9223372036854775808 ≤ at_ ∧ at_ ≤ 9223372036854775807) : CallsG Try.prog 40 [.slice A b.length c, .int .i64 at_] G (fun _ v rows => (¬ (0 ≤ at_ ∧ at_ % 2 = 0 ∧ at_ + 2 ≤ (b.length : Int)) → v = .tuple #[.slice none 0 0, .bool false] ∧ rows = []) ∧ ((0 ≤ at_ ∧ at_ % 2 = 0 ∧ at_ + 2 ≤ (b.length : Int)) → ∃ A' c', v = .tuple #[.slice A' b.length c', .bool true] ∧ b.length ≤ c' ∧ rows = [⟨5, 1, .slice A' b.length c', b.length, (filled b at_).map (Value.int .u8)⟩])) := by
  refine CallsG.enter Try.func40 rfl rfl ?_
  intro w
  refine X.run 12 [0, 1, 4, 5, 10] [] (.ops (aA B40 [1, 0, 0]) (oA B40 [1, 0, 0] 3 :: lA B40 [1, 0, 0] 4)) [.seq (cA B40 [1, 0, 1]), .seq (cA B40 [1, 1])] ⟨47, [(0, .v (.slice A b.length c)), (1, .v (.int .i64 at_)), (4, .v (.slice none 0 0)), (5, .v (.bool false)), (10, .v (.bool (decide (at_ < 0))))], []⟩ (by kernel_rfl) ?_
  refine X.split 10 rfl (fun h1 => ?_) (fun h1 => ?_)
  · -- slot 10: decide (at_ < 0) is True
    replace h1 : at_ < 0 := of_decide_eq_true h1
    refine X.run 22 [4, 5] [] (.ex .ret) [] ⟨47, [(4, .v (.slice none 0 0)), (5, .v (.bool false))], []⟩ (by kernel_rfl) ?_
    refine doneG (.inl rfl) [.slice none 0 0, .bool false] [] (by kernel_rfl) rfl rfl (Ge.refl _ _) ?_
    -- end 1 (T)
    exact ⟨fun _ => ⟨rfl, rfl⟩, fun h => by exfalso; have := band_one h.1 h0.2; omega⟩
  · -- slot 10: decide (at_ < 0) is False
    replace h1 : ¬ (at_ < 0) := of_decide_eq_false h1
    refine X.run 5 [0, 1, 4, 5, 15] [] (.ops (aA B40 [1, 0, 0]) (oA B40 [1, 0, 0] 8 :: lA B40 [1, 0, 0] 9)) [.seq (cA B40 [1, 0, 1]), .seq (cA B40 [1, 1])] ⟨47, [(0, .v (.slice A b.length c)), (1, .v (.int .i64 at_)), (4, .v (.slice none 0 0)), (5, .v (.bool false)), (15, .v (.bool ((band .i64 at_ 1) == 1)))], []⟩ (by kernel_rfl) ?_
    refine X.split 15 rfl (fun h2 => ?_) (fun h2 => ?_)
    · -- slot 15: (band .i64 at_ 1) == 1 is True
      replace h2 : (band .i64 at_ 1) = 1 := by simpa using h2
      refine X.run 17 [4, 5] [] (.ex .ret) [] ⟨47, [(4, .v (.slice none 0 0)), (5, .v (.bool false))], []⟩ (by kernel_rfl) ?_
      refine doneG (.inl rfl) [.slice none 0 0, .bool false] [] (by kernel_rfl) rfl rfl (Ge.refl _ _) ?_
      -- end 2 (FT)
      exact ⟨fun _ => ⟨rfl, rfl⟩, fun h => by exfalso; have := band_one h.1 h0.2; omega⟩
    · -- slot 15: (band .i64 at_ 1) == 1 is False
      replace h2 : (band .i64 at_ 1) ≠ 1 := by simpa using h2
      refine X.run 4 [0, 1, 4, 5, 15, 16, 19] [] (.ops (aA B40 [1, 0, 0]) (oA B40 [1, 0, 0] 12 :: lA B40 [1, 0, 0] 13)) [.seq (cA B40 [1, 0, 1]), .seq (cA B40 [1, 1])] ⟨47, [(0, .v (.slice A b.length c)), (1, .v (.int .i64 at_)), (4, .v (.slice none 0 0)), (5, .v (.bool false)), (15, .v (.bool false)), (16, .v (.int .i64 at_)), (19, .v (.int .i64 (IntKind.i64.wrap (((b.length : Nat) : Int) - 2))))], []⟩ (by kernel_rfl) ?_
      refine X.known 19 (y := .v (.int .i64 (((b.length : Nat) : Int) - 2))) rfl (congrArg (fun z_ => AV.v (.int .i64 z_)) (wi64 (by omega) (by omega))) ?_
      refine X.run 4 [0, 1, 4, 5, 21] [] (.code (cA B40 [1, 0, 1])) [.seq (cA B40 [1, 1])] ⟨47, [(0, .v (.slice A b.length c)), (1, .v (.int .i64 at_)), (4, .v (.slice none 0 0)), (5, .v (.bool false)), (21, .v (.bool (decide (at_ > ((b.length : Nat) : Int) - 2))))], []⟩ (by kernel_rfl) ?_
      refine X.split 21 rfl (fun h3 => ?_) (fun h3 => ?_)
      · -- slot 21: decide (at_ > ((b.length : Nat) : Int) - 2) is True
        replace h3 : at_ > ((b.length : Nat) : Int) - 2 := of_decide_eq_true h3
        refine X.run 9 [4, 5] [] (.ex .ret) [] ⟨47, [(4, .v (.slice none 0 0)), (5, .v (.bool false))], []⟩ (by kernel_rfl) ?_
        refine doneG (.inl rfl) [.slice none 0 0, .bool false] [] (by kernel_rfl) rfl rfl (Ge.refl _ _) ?_
        -- end 3 (FFT)
        exact ⟨fun _ => ⟨rfl, rfl⟩, fun h => by exfalso; have := band_one h.1 h0.2; omega⟩
      · -- slot 21: decide (at_ > ((b.length : Nat) : Int) - 2) is False
        replace h3 : ¬ (at_ > ((b.length : Nat) : Int) - 2) := of_decide_eq_false h3
        refine X.run 6 [1, 4, 5, 22] [] (.ops (aA B40 [1, 1, 0]) (oA B40 [1, 1, 0] 1 :: lA B40 [1, 1, 0] 2)) [.seq (cA B40 [1, 1, 1])] ⟨47, [(1, .v (.int .i64 at_)), (4, .v (.slice none 0 0)), (5, .v (.bool false)), (22, .v (.slice A b.length c))], []⟩ (by kernel_rfl) ?_
        refine X.callG (f := 102) (l := [.v (.slice A b.length c)]) [.slice A b.length c] 423 (by kernel_rfl) (by kernel_rfl) (by kernel_rfl) (Clone_ok _ _ b _ hb hle (by omega)) ?_
        rintro v4 G4 rows4 hG4 ⟨A4, c4, rfl, hc4, rfl⟩
        replace hb := hb.mono hG4.le
        refine X.tellR [423] (R' := [(423, ⟨5, 1, .slice A4 b.length c4, b.length, b.map (Value.int .u8)⟩)]) rfl ?_
        refine X.run 10 [1, 4, 5, 6, 24, 25, 26, 28] [] (.ops (aA B40 [1, 1, 1, 0]) (oA B40 [1, 1, 1, 0] 5 :: lA B40 [1, 1, 1, 0] 6)) [.seq (cA B40 [1, 1, 1, 1])] ⟨47, [(1, .v (.int .i64 at_)), (4, .v (.slice none 0 0)), (5, .v (.bool false)), (6, .v (.slice A4 b.length c4)), (24, .v (.slice A4 b.length c4)), (25, .v (.int .i64 at_)), (26, .v (.slice A4 b.length c4)), (28, .v (.int .i64 (IntKind.i64.wrap (at_ + 1))))], []⟩ (by kernel_rfl) ?_
        refine X.known 28 (y := .v (.int .i64 (at_ + 1))) rfl (congrArg (fun z_ => AV.v (.int .i64 z_)) (wi64 (by omega) (by omega))) ?_
        have b5 : (0 : Int) ≤ at_ := by omega
        have b6 : at_ < ((b.length : Nat) : Int) := by omega
        refine X.index (t := 22) (e := 5) (sz := 1) (A := A4) (n := b.length) (c := c4) (ki := .i64) (i := at_) (x := .tmp 24) (ix := .tmp 25) (by kernel_rfl) (by kernel_rfl) (by kernel_rfl) (by kernel_rfl) (by kernel_rfl) (by kernel_rfl) b5 b6 (rowSome (i := 423) (q := ⟨5, 1, .slice A4 b.length c4, b.length, b.map (Value.int .u8)⟩) rfl rfl (by simp; omega)) ?_
        refine X.run 0 [1, 4, 5, 6, 26, 28, 29] [] (.ops (aA B40 [1, 1, 1, 0]) (oA B40 [1, 1, 1, 0] 6 :: lA B40 [1, 1, 1, 0] 7)) [.seq (cA B40 [1, 1, 1, 1])] ⟨47, [(1, .v (.int .i64 at_)), (4, .v (.slice none 0 0)), (5, .v (.bool false)), (6, .v (.slice A4 b.length c4)), (26, .v (.slice A4 b.length c4)), (28, .v (.int .i64 (at_ + 1))), (29, .v (elt A4 ((at_).toNat * 1)))], []⟩ (by kernel_rfl) ?_
        refine X.storeElem (i := 423) (t := 5) (j := (at_).toNat * 1) (n := b.length) (c := c4) (q := ⟨5, 1, .slice A4 b.length c4, b.length, b.map (Value.int .u8)⟩) (A := A4) (x := .tmp 29) (y := .const (.int .u8 0)) (z := .int .u8 0) (by kernel_rfl) (by kernel_rfl) (by kernel_rfl) rfl rfl (by kernel_rfl) (by show _ + 1 ≤ _; simp; omega) (by kernel_rfl) (Nat.succ_pos _) (by kernel_rfl) ?_
        refine X.tellR [423] (R' := [(423, ⟨5, 1, .slice A4 b.length c4, b.length, (b.set ((at_).toNat) 0).map (Value.int .u8)⟩)]) (congrArg (fun cs_ => (423, (⟨5, 1, .slice A4 b.length c4, b.length, cs_⟩ : Row)) :: []) (splice_ints1 (kd := .u8) (l := b) (j := ((at_).toNat)) (x := 0) (by (try simp only [List.length_set]); omega))) ?_
        refine X.run 0 [1, 4, 5, 6, 26, 28] [] (.ops (aA B40 [1, 1, 1, 0]) (oA B40 [1, 1, 1, 0] 7 :: lA B40 [1, 1, 1, 0] 8)) [.seq (cA B40 [1, 1, 1, 1])] ⟨47, [(1, .v (.int .i64 at_)), (4, .v (.slice none 0 0)), (5, .v (.bool false)), (6, .v (.slice A4 b.length c4)), (26, .v (.slice A4 b.length c4)), (28, .v (.int .i64 (at_ + 1)))], []⟩ (by kernel_rfl) ?_
        have b7 : (0 : Int) ≤ at_ + 1 := by omega
        have b8 : at_ + 1 < ((b.length : Nat) : Int) := by omega
        refine X.index (t := 22) (e := 5) (sz := 1) (A := A4) (n := b.length) (c := c4) (ki := .i64) (i := at_ + 1) (x := .tmp 26) (ix := .tmp 28) (by kernel_rfl) (by kernel_rfl) (by kernel_rfl) (by kernel_rfl) (by kernel_rfl) (by kernel_rfl) b7 b8 (rowSome (i := 423) (q := ⟨5, 1, .slice A4 b.length c4, b.length, (b.set ((at_).toNat) 0).map (Value.int .u8)⟩) rfl rfl (by simp; omega)) ?_
        refine X.run 0 [1, 4, 5, 6, 30] [] (.ops (aA B40 [1, 1, 1, 0]) (oA B40 [1, 1, 1, 0] 8 :: lA B40 [1, 1, 1, 0] 9)) [.seq (cA B40 [1, 1, 1, 1])] ⟨47, [(1, .v (.int .i64 at_)), (4, .v (.slice none 0 0)), (5, .v (.bool false)), (6, .v (.slice A4 b.length c4)), (30, .v (elt A4 ((at_ + 1).toNat * 1)))], []⟩ (by kernel_rfl) ?_
        refine X.storeElem (i := 423) (t := 5) (j := (at_ + 1).toNat * 1) (n := b.length) (c := c4) (q := ⟨5, 1, .slice A4 b.length c4, b.length, (b.set ((at_).toNat) 0).map (Value.int .u8)⟩) (A := A4) (x := .tmp 30) (y := .const (.int .u8 0)) (z := .int .u8 0) (by kernel_rfl) (by kernel_rfl) (by kernel_rfl) rfl rfl (by kernel_rfl) (by show _ + 1 ≤ _; simp; omega) (by kernel_rfl) (Nat.succ_pos _) (by kernel_rfl) ?_
        refine X.tellR [423] (R' := [(423, ⟨5, 1, .slice A4 b.length c4, b.length, ((b.set ((at_).toNat) 0).set ((at_ + 1).toNat) 0).map (Value.int .u8)⟩)]) (congrArg (fun cs_ => (423, (⟨5, 1, .slice A4 b.length c4, b.length, cs_⟩ : Row)) :: []) (splice_ints1 (kd := .u8) (l := (b.set ((at_).toNat) 0)) (j := ((at_ + 1).toNat)) (x := 0) (by (try simp only [List.length_set]); omega))) ?_
        refine X.run 5 [1, 4, 5, 6, 31] [] (.ops (aA B40 [1, 1, 1, 1, 0]) (oA B40 [1, 1, 1, 1, 0] 1 :: lA B40 [1, 1, 1, 1, 0] 2)) [.seq (cA B40 [1, 1, 1, 1, 1])] ⟨47, [(1, .v (.int .i64 at_)), (4, .v (.slice none 0 0)), (5, .v (.bool false)), (6, .v (.slice A4 b.length c4)), (31, .v (.slice A4 b.length c4))], []⟩ (by kernel_rfl) ?_
        refine X.lit 32 22 1 1 [.slice A4 b.length c4] (by kernel_rfl) (fun g => by kernel_rfl) ?_
        intro A9
        refine X.run 0 [1, 4, 5, 6, 32] [] (.ops (aA B40 [1, 1, 1, 1, 0]) (oA B40 [1, 1, 1, 1, 0] 2 :: lA B40 [1, 1, 1, 1, 0] 3)) [.seq (cA B40 [1, 1, 1, 1, 1])] ⟨47, [(1, .v (.int .i64 at_)), (4, .v (.slice none 0 0)), (5, .v (.bool false)), (6, .v (.slice A4 b.length c4)), (32, .v (.slice A9 1 1))], []⟩ (by kernel_rfl) ?_
        refine X.capLe (i := 423) (q := ⟨5, 1, .slice A4 b.length c4, b.length, ((b.set ((at_).toNat) 0).set ((at_ + 1).toNat) 0).map (Value.int .u8)⟩) (n := b.length) (c := c4) (A := A4) rfl rfl fun hn10 hx10 => ?_
        have hl10 : ((b.set ((at_).toNat) 0).set ((at_ + 1).toNat) 0).length = b.length := by simp
        have hb10 : isBytes ((b.set ((at_).toNat) 0).set ((at_ + 1).toNat) 0) := bytes_set (bytes_set (row_bytes hb) (by omega)) (by omega)
        refine X.callV (f := 28) (l := [.v (.slice A9 1 1)]) (Q := fun v_ => v_ = .int .u16 (cks ((b.set ((at_).toNat) 0).set ((at_ + 1).toNat) 0))) [.slice A9 1 1] (by kernel_rfl) (by kernel_rfl) (by kernel_rfl) (fun G1_ hl_ hr_ => (Sum_ok _ _ [(b.set ((at_).toNat) 0).set ((at_ + 1).toNat) 0] G1_ (rowLit (hr_ 32 _ rfl) ⟨_, _, rfl, (show (D.slice (D.int .u8)).rep G1_ ((b.set ((at_).toNat) 0).set ((at_ + 1).toNat) 0) [.slice A4 b.length c4] by rw [← hl10]; exact rep_slice (by omega) hx10 (rowLit (hr_ 423 _ rfl) (reps_ints hb10) (by decide))), rfl⟩ (by decide)) (by simp) (by rw [List.flatten_cons, List.flatten_nil, List.append_nil]; have := wsum_le hb10 300 (by omega); omega)).mono (fun _ _ _ _ h_ => by rw [h_.1, List.flatten_cons, List.flatten_nil, List.append_nil])) ?_
        rintro _ rfl
        refine X.run 10 [4, 5, 6, 7, 34, 35, 36, 38] [] (.ops (aA B40 [1, 1, 1, 1, 1, 0]) (oA B40 [1, 1, 1, 1, 1, 0] 5 :: lA B40 [1, 1, 1, 1, 1, 0] 6)) [.seq (cA B40 [1, 1, 1, 1, 1, 1])] ⟨47, [(4, .v (.slice none 0 0)), (5, .v (.bool false)), (6, .v (.slice A4 b.length c4)), (7, .v (.int .u16 (cks ((b.set ((at_).toNat) 0).set ((at_ + 1).toNat) 0)))), (34, .v (.slice A4 b.length c4)), (35, .v (.int .i64 at_)), (36, .v (.slice A4 b.length c4)), (38, .v (.int .i64 (IntKind.i64.wrap (at_ + 1))))], []⟩ (by kernel_rfl) ?_
        refine X.known 38 (y := .v (.int .i64 (at_ + 1))) rfl (congrArg (fun z_ => AV.v (.int .i64 z_)) (wi64 (by omega) (by omega))) ?_
        refine X.run 5 [4, 5, 6, 34, 35, 36, 38, 41, 43] [] (.ops (aA B40 [1, 1, 1, 1, 1, 0]) (oA B40 [1, 1, 1, 1, 1, 0] 10 :: lA B40 [1, 1, 1, 1, 1, 0] 11)) [.seq (cA B40 [1, 1, 1, 1, 1, 1])] ⟨47, [(4, .v (.slice none 0 0)), (5, .v (.bool false)), (6, .v (.slice A4 b.length c4)), (34, .v (.slice A4 b.length c4)), (35, .v (.int .i64 at_)), (36, .v (.slice A4 b.length c4)), (38, .v (.int .i64 (at_ + 1))), (41, .v (.int .u8 (IntKind.u8.wrap (bshr .u16 (cks ((b.set ((at_).toNat) 0).set ((at_ + 1).toNat) 0)) 8)))), (43, .v (.int .u8 (IntKind.u8.wrap (cks ((b.set ((at_).toNat) 0).set ((at_ + 1).toNat) 0)))))], []⟩ (by kernel_rfl) ?_
        have b11 : (0 : Int) ≤ at_ := by omega
        have b12 : at_ < ((b.length : Nat) : Int) := by omega
        refine X.index (t := 22) (e := 5) (sz := 1) (A := A4) (n := b.length) (c := c4) (ki := .i64) (i := at_) (x := .tmp 34) (ix := .tmp 35) (by kernel_rfl) (by kernel_rfl) (by kernel_rfl) (by kernel_rfl) (by kernel_rfl) (by kernel_rfl) b11 b12 (rowSome (i := 423) (q := ⟨5, 1, .slice A4 b.length c4, b.length, ((b.set ((at_).toNat) 0).set ((at_ + 1).toNat) 0).map (Value.int .u8)⟩) rfl rfl (by simp; omega)) ?_
        refine X.run 0 [4, 5, 6, 36, 38, 41, 43, 44] [] (.ops (aA B40 [1, 1, 1, 1, 1, 0]) (oA B40 [1, 1, 1, 1, 1, 0] 11 :: lA B40 [1, 1, 1, 1, 1, 0] 12)) [.seq (cA B40 [1, 1, 1, 1, 1, 1])] ⟨47, [(4, .v (.slice none 0 0)), (5, .v (.bool false)), (6, .v (.slice A4 b.length c4)), (36, .v (.slice A4 b.length c4)), (38, .v (.int .i64 (at_ + 1))), (41, .v (.int .u8 (IntKind.u8.wrap (bshr .u16 (cks ((b.set ((at_).toNat) 0).set ((at_ + 1).toNat) 0)) 8)))), (43, .v (.int .u8 (IntKind.u8.wrap (cks ((b.set ((at_).toNat) 0).set ((at_ + 1).toNat) 0))))), (44, .v (elt A4 ((at_).toNat * 1)))], []⟩ (by kernel_rfl) ?_
        refine X.storeElem (i := 423) (t := 5) (j := (at_).toNat * 1) (n := b.length) (c := c4) (q := ⟨5, 1, .slice A4 b.length c4, b.length, ((b.set ((at_).toNat) 0).set ((at_ + 1).toNat) 0).map (Value.int .u8)⟩) (A := A4) (x := .tmp 44) (y := .tmp 41) (z := .int .u8 (IntKind.u8.wrap (bshr .u16 (cks ((b.set ((at_).toNat) 0).set ((at_ + 1).toNat) 0)) 8))) (by kernel_rfl) (by kernel_rfl) (by kernel_rfl) rfl rfl (by kernel_rfl) (by show _ + 1 ≤ _; simp; omega) (by kernel_rfl) (Nat.succ_pos _) (by kernel_rfl) ?_
        refine X.tellR [423, 32] (R' := [(423, ⟨5, 1, .slice A4 b.length c4, b.length, (((b.set ((at_).toNat) 0).set ((at_ + 1).toNat) 0).set ((at_).toNat) (IntKind.u8.wrap (bshr .u16 (cks ((b.set ((at_).toNat) 0).set ((at_ + 1).toNat) 0)) 8))).map (Value.int .u8)⟩), (32, ⟨22, 1, .slice A9 1 1, 1, [.slice A4 b.length c4]⟩)]) (congrArg (fun cs_ => (423, (⟨5, 1, .slice A4 b.length c4, b.length, cs_⟩ : Row)) :: [(32, ⟨22, 1, .slice A9 1 1, 1, [.slice A4 b.length c4]⟩)]) (splice_ints1 (kd := .u8) (l := ((b.set ((at_).toNat) 0).set ((at_ + 1).toNat) 0)) (j := ((at_).toNat)) (x := (IntKind.u8.wrap (bshr .u16 (cks ((b.set ((at_).toNat) 0).set ((at_ + 1).toNat) 0)) 8))) (by (try simp only [List.length_set]); omega))) ?_
        refine X.run 0 [4, 5, 6, 36, 38, 43] [] (.ops (aA B40 [1, 1, 1, 1, 1, 0]) (oA B40 [1, 1, 1, 1, 1, 0] 12 :: lA B40 [1, 1, 1, 1, 1, 0] 13)) [.seq (cA B40 [1, 1, 1, 1, 1, 1])] ⟨47, [(4, .v (.slice none 0 0)), (5, .v (.bool false)), (6, .v (.slice A4 b.length c4)), (36, .v (.slice A4 b.length c4)), (38, .v (.int .i64 (at_ + 1))), (43, .v (.int .u8 (IntKind.u8.wrap (cks ((b.set ((at_).toNat) 0).set ((at_ + 1).toNat) 0)))))], []⟩ (by kernel_rfl) ?_
        have b13 : (0 : Int) ≤ at_ + 1 := by omega
        have b14 : at_ + 1 < ((b.length : Nat) : Int) := by omega
        refine X.index (t := 22) (e := 5) (sz := 1) (A := A4) (n := b.length) (c := c4) (ki := .i64) (i := at_ + 1) (x := .tmp 36) (ix := .tmp 38) (by kernel_rfl) (by kernel_rfl) (by kernel_rfl) (by kernel_rfl) (by kernel_rfl) (by kernel_rfl) b13 b14 (rowSome (i := 423) (q := ⟨5, 1, .slice A4 b.length c4, b.length, (((b.set ((at_).toNat) 0).set ((at_ + 1).toNat) 0).set ((at_).toNat) (IntKind.u8.wrap (bshr .u16 (cks ((b.set ((at_).toNat) 0).set ((at_ + 1).toNat) 0)) 8))).map (Value.int .u8)⟩) rfl rfl (by simp; omega)) ?_
        refine X.run 0 [4, 5, 6, 43, 45] [] (.ops (aA B40 [1, 1, 1, 1, 1, 0]) (oA B40 [1, 1, 1, 1, 1, 0] 13 :: lA B40 [1, 1, 1, 1, 1, 0] 14)) [.seq (cA B40 [1, 1, 1, 1, 1, 1])] ⟨47, [(4, .v (.slice none 0 0)), (5, .v (.bool false)), (6, .v (.slice A4 b.length c4)), (43, .v (.int .u8 (IntKind.u8.wrap (cks ((b.set ((at_).toNat) 0).set ((at_ + 1).toNat) 0))))), (45, .v (elt A4 ((at_ + 1).toNat * 1)))], []⟩ (by kernel_rfl) ?_
        refine X.storeElem (i := 423) (t := 5) (j := (at_ + 1).toNat * 1) (n := b.length) (c := c4) (q := ⟨5, 1, .slice A4 b.length c4, b.length, (((b.set ((at_).toNat) 0).set ((at_ + 1).toNat) 0).set ((at_).toNat) (IntKind.u8.wrap (bshr .u16 (cks ((b.set ((at_).toNat) 0).set ((at_ + 1).toNat) 0)) 8))).map (Value.int .u8)⟩) (A := A4) (x := .tmp 45) (y := .tmp 43) (z := .int .u8 (IntKind.u8.wrap (cks ((b.set ((at_).toNat) 0).set ((at_ + 1).toNat) 0)))) (by kernel_rfl) (by kernel_rfl) (by kernel_rfl) rfl rfl (by kernel_rfl) (by show _ + 1 ≤ _; simp; omega) (by kernel_rfl) (Nat.succ_pos _) (by kernel_rfl) ?_
        refine X.tellR [423, 32] (R' := [(423, ⟨5, 1, .slice A4 b.length c4, b.length, ((((b.set ((at_).toNat) 0).set ((at_ + 1).toNat) 0).set ((at_).toNat) (IntKind.u8.wrap (bshr .u16 (cks ((b.set ((at_).toNat) 0).set ((at_ + 1).toNat) 0)) 8))).set ((at_ + 1).toNat) (IntKind.u8.wrap (cks ((b.set ((at_).toNat) 0).set ((at_ + 1).toNat) 0)))).map (Value.int .u8)⟩), (32, ⟨22, 1, .slice A9 1 1, 1, [.slice A4 b.length c4]⟩)]) (congrArg (fun cs_ => (423, (⟨5, 1, .slice A4 b.length c4, b.length, cs_⟩ : Row)) :: [(32, ⟨22, 1, .slice A9 1 1, 1, [.slice A4 b.length c4]⟩)]) (splice_ints1 (kd := .u8) (l := (((b.set ((at_).toNat) 0).set ((at_ + 1).toNat) 0).set ((at_).toNat) (IntKind.u8.wrap (bshr .u16 (cks ((b.set ((at_).toNat) 0).set ((at_ + 1).toNat) 0)) 8)))) (j := ((at_ + 1).toNat)) (x := (IntKind.u8.wrap (cks ((b.set ((at_).toNat) 0).set ((at_ + 1).toNat) 0)))) (by (try simp only [List.length_set]); omega))) ?_
        refine X.run 10 [4, 5] [] (.ex .ret) [] ⟨47, [(4, .v (.slice A4 b.length c4)), (5, .v (.bool true))], []⟩ (by kernel_rfl) ?_
        have hbo := band_one (x := at_) (by omega) h0.2
        refine doneG (.inl rfl) [.slice A4 b.length c4, .bool true] [423] (by kernel_rfl) rfl rfl (hG4) ?_
        -- end 4 (FFF)
        exact ⟨fun h => by exfalso; apply h; omega, fun _ => ⟨_, _, rfl, by omega, rfl⟩⟩
end Go.Proofs.YtjgpdbkkpomhjaaX
