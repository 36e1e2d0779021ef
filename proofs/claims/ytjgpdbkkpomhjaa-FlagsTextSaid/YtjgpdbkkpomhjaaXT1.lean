/- flags.flag, flags.Parse -/
import Derived.Test.YtjgpdbkkpomhjaaProg
import Derived.KernelRfl
import Derived.Test.YtjgpdbkkpomhjaaXT
import Derived.Test.YtjgpdbkkpomhjaaXI
namespace Go.Proofs.YtjgpdbkkpomhjaaX
open Go.RowKit
set_option linter.unusedVariables false
set_option linter.unusedSimpArgs false
set_option maxRecDepth 100000
def fv (x : Int) : Int := if x = 70 then 1 else if x = 83 then 2 else if x = 82 then 4 else if x = 80 then 8 else if x = 65 then 16 else if x = 85 then 32 else 0
def pr : List Int → Int → Option Int
  | [], n => some n
  | x :: l, n => if fv x = 0 ∨ band .u8 n (fv x) ≠ 0 then none else pr l (bor .u8 n (fv x))
def prs (s : ByteArray) : Int × Bool := if s = ⟨#[45]⟩ then (0, true) else match pr (bytesL s) 0 with
  | none => (0, false)
  | some n => (n, true)
def hbit (q : Int) (j : Nat) : Bool := band .u8 q (2 ^ j) != 0
theorem six (q : Nat) (hq : q < 64) : ∀ k : Nat, k < 6 → hbit (q : Int) k = false → bor .u8 (q : Int) (2 ^ k) = q + 2 ^ k ∧ q + 2 ^ k < 64 ∧ (∀ j : Nat, j < 6 → hbit ((q : Int) + 2 ^ k) j = (hbit q j || j == k)) := by
  revert q
  have h : ∀ q : Fin 64, ∀ k : Fin 6, hbit ((q.1 : Nat) : Int) k.1 = false → bor .u8 ((q.1 : Nat) : Int) (2 ^ k.1) = (q.1 : Int) + 2 ^ k.1 ∧ q.1 + 2 ^ k.1 < 64 ∧ (∀ j : Fin 6, hbit (((q.1 : Nat) : Int) + 2 ^ k.1) j.1 = (hbit (q.1 : Nat) j.1 || j.1 == k.1)) := by decide +kernel
  intro q hq k hk hb
  obtain ⟨h1, h2, h3⟩ := h ⟨q, hq⟩ ⟨k, hk⟩ hb
  exact ⟨h1, h2, fun j hj => h3 ⟨j, hj⟩⟩
theorem sixI {q : Int} (h0 : 0 ≤ q) (h1 : q < 64) {k : Nat} (hk : k < 6) (h : hbit q k = false) : bor .u8 q (2 ^ k) = q + 2 ^ k ∧ q + 2 ^ k < 64 ∧ (∀ j : Nat, j < 6 → hbit (q + 2 ^ k) j = (hbit q j || j == k)) := by
  obtain ⟨n, rfl⟩ : ∃ n : Nat, q = n := ⟨q.toNat, by omega⟩
  obtain ⟨h2, h3, h4⟩ := six n (by omega) k hk h
  exact ⟨h2, by exact_mod_cast h3, h4⟩
theorem low63 {q : Int} (h0 : 0 ≤ q) (h1 : q < 64) : band .u8 q 63 = q := by
  obtain ⟨n, rfl⟩ : ∃ n : Nat, q = n := ⟨q.toNat, by omega⟩
  rw [show (63 : Int) = ((2 ^ 6 - 1 : Nat) : Int) by decide, band_low (k := .u8) (m := 6) rfl (by omega) (show _ < (2 : Int) ^ 8 by omega) (by decide), show ((2 : Int) ^ 6) = 64 by decide]
  omega
theorem bytesL_drop {s : ByteArray} {p : Nat} (h : p < s.size) : (bytesL s).drop p = byteAt s p :: (bytesL s).drop (p + 1) := by
  have hl : p < (bytesL s).length := by simp [bytesL]; exact h
  rw [List.drop_eq_getElem_cons hl]
  congr 1
  have h' : p < s.data.size := h
  simp [bytesL, byteAt, Array.getElem?_eq_getElem h']
theorem bytesL_len (s : ByteArray) : (bytesL s).length = s.size := by simp [bytesL]
theorem fv_high {x : Int} (h : 128 ≤ x) : fv x = 0 := by
  unfold fv
  rw [if_neg (by omega), if_neg (by omega), if_neg (by omega), if_neg (by omega), if_neg (by omega), if_neg (by omega)]
theorem dec_fv {s : ByteArray} {p : Nat} (h : p < s.size) : fv ((Utf8.decode s p).1 : Int) = fv (byteAt s p) ∧ (fv (byteAt s p) ≠ 0 → (Utf8.decode s p).2 = 1) := by
  by_cases ha : (s[p]'h).toNat < 128
  · rw [decode_ascii s p h ha, byteAt_eq h]
    exact ⟨rfl, fun _ => rfl⟩
  · have := decode_high s p h (by omega)
    have e : fv (byteAt s p) = 0 := by rw [byteAt_eq h]; exact fv_high (by omega)
    exact ⟨by rw [e]; exact fv_high (by omega), fun hn => absurd e hn⟩
theorem fv_pow (x : Int) : fv x = 0 ∨ ∃ k : Nat, k < 6 ∧ fv x = 2 ^ k := by
  unfold fv
  split; exact .inr ⟨0, by decide, rfl⟩
  split; exact .inr ⟨1, by decide, rfl⟩
  split; exact .inr ⟨2, by decide, rfl⟩
  split; exact .inr ⟨3, by decide, rfl⟩
  split; exact .inr ⟨4, by decide, rfl⟩
  split; exact .inr ⟨5, by decide, rfl⟩
  exact .inl rfl
theorem pr_stop {x n : Int} {l : List Int} (h : fv x = 0 ∨ band .u8 n (fv x) ≠ 0) : pr (x :: l) n = none := by
  show (if _ then _ else _) = _
  rw [if_pos h]
theorem pr_go {x n : Int} {l : List Int} (h0 : 0 ≤ n) (h1 : n < 64) (h : fv x ≠ 0) (hb : band .u8 n (fv x) = 0) : pr (x :: l) n = pr l (bor .u8 n (fv x)) ∧ 0 ≤ bor .u8 n (fv x) ∧ bor .u8 n (fv x) < 64 := by
  refine ⟨?_, ?_⟩
  · show (if _ then _ else _) = _
    rw [if_neg (by rintro (h2 | h2); exact h h2; exact h2 hb)]
  · obtain h2 | ⟨k, hk, h2⟩ := fv_pow x
    · exact absurd h2 h
    · rw [h2] at hb ⊢
      obtain ⟨h3, h4, _⟩ := sixI h0 h1 hk (by simp [hbit, hb])
      have : (0 : Int) < 2 ^ k := Int.pow_pos (by decide)
      omega

/-- leat/flags.letters -/
noncomputable def B104 : Code := bodyOf Try.f104

/-- leat/flags.flag -/
noncomputable def B103 : Code := bodyOf Try.f103
set_option maxHeartbeats 1000000 in
theorem flag_ok (x : Int) (G : Mem) : CallsG Try.prog 103 [.int .i32 x] G (fun _ v rows => v = .tuple #[.int .u8 (fv x), .bool (fv x != 0)] ∧ rows = []) := by
  refine CallsG.enter Try.func103 rfl rfl ?_
  intro w
  refine X.run 9 [0, 2, 3] [] (.ops (aA B103 [1, 0, 0]) (oA B103 [1, 0, 0] 0 :: lA B103 [1, 0, 0] 1)) [.seq (cA B103 [1, 0, 1]), .seq (cA B103 [1, 1])] ⟨17, [(0, .v (.int .i32 x)), (2, .v (.int .u8 0)), (3, .v (.bool false))], []⟩ (by kernel_rfl) ?_
  refine X.inline (f := 104) (l := []) (fn := Try.f104) (c := B104) (by kernel_rfl) (by kernel_rfl) Try.func104 (by kernel_rfl) ?_
  intro Q1 M1 hM1 hQ1 fin1
  refine X.run 12 [0] [0] (.ex .ret) [] ⟨2, [(0, .own 0 0)], [(0, ⟨148, [.v (.int .i32 70), .v (.int .i32 83), .v (.int .i32 82), .v (.int .i32 80), .v (.int .i32 65), .v (.int .i32 85)]⟩)]⟩ (by kernel_rfl) ?_
  refine fin1 _ _ _ _ [.agg #[.int .i32 70, .int .i32 83, .int .i32 82, .int .i32 80, .int .i32 65, .int .i32 85]] [] (.inl rfl) (by kernel_rfl) (by kernel_rfl) ?_
  refine X.run 4 [0, 2, 3, 6, 7] [] (.code (cA B103 [1, 0, 1, 0])) [.blk 0, .seq (cA B103 [1, 1])] ⟨17, [(0, .v (.int .i32 x)), (2, .v (.int .u8 0)), (3, .v (.bool false)), (6, .v (.agg #[.int .i32 70, .int .i32 83, .int .i32 82, .int .i32 80, .int .i32 65, .int .i32 85])), (7, .v (.int .i64 0))], []⟩ (by kernel_rfl) ?_
  refine X.rounds 8 ?_
  refine RX.succ fun J2 hJ2 => ?_
  refine X.run 26 [0, 2, 3, 4, 5, 6, 7, 8, 9, 10, 11, 12, 13] [] (.code (cA B103 [1, 0, 1, 0, 0, 1, 1, 0, 0, 1, 1])) [.blk 1, .seq (cA B103 [1, 0, 1, 0, 0, 1, 1, 1]), .loop J2, .blk 0, .seq (cA B103 [1, 1])] ⟨17, [(0, .v (.int .i32 x)), (2, .v (.int .u8 0)), (3, .v (.bool false)), (4, .v (.int .i64 0)), (5, .v (.int .i32 70)), (6, .v (.agg #[.int .i32 70, .int .i32 83, .int .i32 82, .int .i32 80, .int .i32 65, .int .i32 85])), (7, .v (.int .i64 0)), (8, .v (.bool true)), (9, .v (.int .i64 0)), (10, .v (.int .i32 70)), (11, .v (.int .i32 70)), (12, .v (.int .i32 x)), (13, .v (.bool (70 == x)))], []⟩ (by kernel_rfl) ?_
  refine X.split 13 rfl (fun h3 => ?_) (fun h3 => ?_)
  · -- slot 13: 70 == x is True
    replace h3 : 70 = x := by simpa using h3
    refine X.run 15 [2, 3] [] (.ex .ret) [] ⟨17, [(2, .v (.int .u8 1)), (3, .v (.bool true))], []⟩ (by kernel_rfl) ?_
    refine doneG (.inl rfl) [.int .u8 1, .bool true] [] (by kernel_rfl) rfl rfl (Ge.refl _ _) ?_
    -- end 2 (T)
    subst_vars
    exact ⟨rfl, rfl⟩
  · -- slot 13: 70 == x is False
    replace h3 : 70 ≠ x := by simpa using h3
    refine X.run 8 [0, 2, 3, 4, 5, 6, 7, 8, 9, 10, 11, 12, 13, 16] [] (.ex .normal) [.loop J2, .blk 0, .seq (cA B103 [1, 1])] ⟨17, [(0, .v (.int .i32 x)), (2, .v (.int .u8 0)), (3, .v (.bool false)), (4, .v (.int .i64 0)), (5, .v (.int .i32 70)), (6, .v (.agg #[.int .i32 70, .int .i32 83, .int .i32 82, .int .i32 80, .int .i32 65, .int .i32 85])), (7, .v (.int .i64 1)), (8, .v (.bool true)), (9, .v (.int .i64 0)), (10, .v (.int .i32 70)), (11, .v (.int .i32 70)), (12, .v (.int .i32 x)), (13, .v (.bool false)), (16, .v (.int .i64 1))], []⟩ (by kernel_rfl) ?_
    refine X.again (hJ2 _ _ _ ?_)
    refine RX.succ fun J4 hJ4 => ?_
    refine X.run 26 [0, 2, 3, 4, 5, 6, 7, 8, 9, 10, 11, 12, 13, 16] [] (.code (cA B103 [1, 0, 1, 0, 0, 1, 1, 0, 0, 1, 1])) [.blk 1, .seq (cA B103 [1, 0, 1, 0, 0, 1, 1, 1]), .loop J4, .blk 0, .seq (cA B103 [1, 1])] ⟨17, [(0, .v (.int .i32 x)), (2, .v (.int .u8 0)), (3, .v (.bool false)), (4, .v (.int .i64 1)), (5, .v (.int .i32 83)), (6, .v (.agg #[.int .i32 70, .int .i32 83, .int .i32 82, .int .i32 80, .int .i32 65, .int .i32 85])), (7, .v (.int .i64 1)), (8, .v (.bool true)), (9, .v (.int .i64 1)), (10, .v (.int .i32 83)), (11, .v (.int .i32 83)), (12, .v (.int .i32 x)), (13, .v (.bool (83 == x))), (16, .v (.int .i64 1))], []⟩ (by kernel_rfl) ?_
    refine X.split 13 rfl (fun h5 => ?_) (fun h5 => ?_)
    · -- slot 13: 83 == x is True
      replace h5 : 83 = x := by simpa using h5
      refine X.run 15 [2, 3] [] (.ex .ret) [] ⟨17, [(2, .v (.int .u8 2)), (3, .v (.bool true))], []⟩ (by kernel_rfl) ?_
      refine doneG (.inl rfl) [.int .u8 2, .bool true] [] (by kernel_rfl) rfl rfl (Ge.refl _ _) ?_
      -- end 3 (FT)
      subst_vars
      exact ⟨rfl, rfl⟩
    · -- slot 13: 83 == x is False
      replace h5 : 83 ≠ x := by simpa using h5
      refine X.run 8 [0, 2, 3, 4, 5, 6, 7, 8, 9, 10, 11, 12, 13, 16] [] (.ex .normal) [.loop J4, .blk 0, .seq (cA B103 [1, 1])] ⟨17, [(0, .v (.int .i32 x)), (2, .v (.int .u8 0)), (3, .v (.bool false)), (4, .v (.int .i64 1)), (5, .v (.int .i32 83)), (6, .v (.agg #[.int .i32 70, .int .i32 83, .int .i32 82, .int .i32 80, .int .i32 65, .int .i32 85])), (7, .v (.int .i64 2)), (8, .v (.bool true)), (9, .v (.int .i64 1)), (10, .v (.int .i32 83)), (11, .v (.int .i32 83)), (12, .v (.int .i32 x)), (13, .v (.bool false)), (16, .v (.int .i64 2))], []⟩ (by kernel_rfl) ?_
      refine X.again (hJ4 _ _ _ ?_)
      refine RX.succ fun J6 hJ6 => ?_
      refine X.run 26 [0, 2, 3, 4, 5, 6, 7, 8, 9, 10, 11, 12, 13, 16] [] (.code (cA B103 [1, 0, 1, 0, 0, 1, 1, 0, 0, 1, 1])) [.blk 1, .seq (cA B103 [1, 0, 1, 0, 0, 1, 1, 1]), .loop J6, .blk 0, .seq (cA B103 [1, 1])] ⟨17, [(0, .v (.int .i32 x)), (2, .v (.int .u8 0)), (3, .v (.bool false)), (4, .v (.int .i64 2)), (5, .v (.int .i32 82)), (6, .v (.agg #[.int .i32 70, .int .i32 83, .int .i32 82, .int .i32 80, .int .i32 65, .int .i32 85])), (7, .v (.int .i64 2)), (8, .v (.bool true)), (9, .v (.int .i64 2)), (10, .v (.int .i32 82)), (11, .v (.int .i32 82)), (12, .v (.int .i32 x)), (13, .v (.bool (82 == x))), (16, .v (.int .i64 2))], []⟩ (by kernel_rfl) ?_
      refine X.split 13 rfl (fun h7 => ?_) (fun h7 => ?_)
      · -- slot 13: 82 == x is True
        replace h7 : 82 = x := by simpa using h7
        refine X.run 15 [2, 3] [] (.ex .ret) [] ⟨17, [(2, .v (.int .u8 4)), (3, .v (.bool true))], []⟩ (by kernel_rfl) ?_
        refine doneG (.inl rfl) [.int .u8 4, .bool true] [] (by kernel_rfl) rfl rfl (Ge.refl _ _) ?_
        -- end 4 (FFT)
        subst_vars
        exact ⟨rfl, rfl⟩
      · -- slot 13: 82 == x is False
        replace h7 : 82 ≠ x := by simpa using h7
        refine X.run 8 [0, 2, 3, 4, 5, 6, 7, 8, 9, 10, 11, 12, 13, 16] [] (.ex .normal) [.loop J6, .blk 0, .seq (cA B103 [1, 1])] ⟨17, [(0, .v (.int .i32 x)), (2, .v (.int .u8 0)), (3, .v (.bool false)), (4, .v (.int .i64 2)), (5, .v (.int .i32 82)), (6, .v (.agg #[.int .i32 70, .int .i32 83, .int .i32 82, .int .i32 80, .int .i32 65, .int .i32 85])), (7, .v (.int .i64 3)), (8, .v (.bool true)), (9, .v (.int .i64 2)), (10, .v (.int .i32 82)), (11, .v (.int .i32 82)), (12, .v (.int .i32 x)), (13, .v (.bool false)), (16, .v (.int .i64 3))], []⟩ (by kernel_rfl) ?_
        refine X.again (hJ6 _ _ _ ?_)
        refine RX.succ fun J8 hJ8 => ?_
        refine X.run 26 [0, 2, 3, 4, 5, 6, 7, 8, 9, 10, 11, 12, 13, 16] [] (.code (cA B103 [1, 0, 1, 0, 0, 1, 1, 0, 0, 1, 1])) [.blk 1, .seq (cA B103 [1, 0, 1, 0, 0, 1, 1, 1]), .loop J8, .blk 0, .seq (cA B103 [1, 1])] ⟨17, [(0, .v (.int .i32 x)), (2, .v (.int .u8 0)), (3, .v (.bool false)), (4, .v (.int .i64 3)), (5, .v (.int .i32 80)), (6, .v (.agg #[.int .i32 70, .int .i32 83, .int .i32 82, .int .i32 80, .int .i32 65, .int .i32 85])), (7, .v (.int .i64 3)), (8, .v (.bool true)), (9, .v (.int .i64 3)), (10, .v (.int .i32 80)), (11, .v (.int .i32 80)), (12, .v (.int .i32 x)), (13, .v (.bool (80 == x))), (16, .v (.int .i64 3))], []⟩ (by kernel_rfl) ?_
        refine X.split 13 rfl (fun h9 => ?_) (fun h9 => ?_)
        · -- slot 13: 80 == x is True
          replace h9 : 80 = x := by simpa using h9
          refine X.run 15 [2, 3] [] (.ex .ret) [] ⟨17, [(2, .v (.int .u8 8)), (3, .v (.bool true))], []⟩ (by kernel_rfl) ?_
          refine doneG (.inl rfl) [.int .u8 8, .bool true] [] (by kernel_rfl) rfl rfl (Ge.refl _ _) ?_
          -- end 5 (FFFT)
          subst_vars
          exact ⟨rfl, rfl⟩
        · -- slot 13: 80 == x is False
          replace h9 : 80 ≠ x := by simpa using h9
          refine X.run 8 [0, 2, 3, 4, 5, 6, 7, 8, 9, 10, 11, 12, 13, 16] [] (.ex .normal) [.loop J8, .blk 0, .seq (cA B103 [1, 1])] ⟨17, [(0, .v (.int .i32 x)), (2, .v (.int .u8 0)), (3, .v (.bool false)), (4, .v (.int .i64 3)), (5, .v (.int .i32 80)), (6, .v (.agg #[.int .i32 70, .int .i32 83, .int .i32 82, .int .i32 80, .int .i32 65, .int .i32 85])), (7, .v (.int .i64 4)), (8, .v (.bool true)), (9, .v (.int .i64 3)), (10, .v (.int .i32 80)), (11, .v (.int .i32 80)), (12, .v (.int .i32 x)), (13, .v (.bool false)), (16, .v (.int .i64 4))], []⟩ (by kernel_rfl) ?_
          refine X.again (hJ8 _ _ _ ?_)
          refine RX.succ fun J10 hJ10 => ?_
          refine X.run 26 [0, 2, 3, 4, 5, 6, 7, 8, 9, 10, 11, 12, 13, 16] [] (.code (cA B103 [1, 0, 1, 0, 0, 1, 1, 0, 0, 1, 1])) [.blk 1, .seq (cA B103 [1, 0, 1, 0, 0, 1, 1, 1]), .loop J10, .blk 0, .seq (cA B103 [1, 1])] ⟨17, [(0, .v (.int .i32 x)), (2, .v (.int .u8 0)), (3, .v (.bool false)), (4, .v (.int .i64 4)), (5, .v (.int .i32 65)), (6, .v (.agg #[.int .i32 70, .int .i32 83, .int .i32 82, .int .i32 80, .int .i32 65, .int .i32 85])), (7, .v (.int .i64 4)), (8, .v (.bool true)), (9, .v (.int .i64 4)), (10, .v (.int .i32 65)), (11, .v (.int .i32 65)), (12, .v (.int .i32 x)), (13, .v (.bool (65 == x))), (16, .v (.int .i64 4))], []⟩ (by kernel_rfl) ?_
          refine X.split 13 rfl (fun h11 => ?_) (fun h11 => ?_)
          · -- slot 13: 65 == x is True
            replace h11 : 65 = x := by simpa using h11
            refine X.run 15 [2, 3] [] (.ex .ret) [] ⟨17, [(2, .v (.int .u8 16)), (3, .v (.bool true))], []⟩ (by kernel_rfl) ?_
            refine doneG (.inl rfl) [.int .u8 16, .bool true] [] (by kernel_rfl) rfl rfl (Ge.refl _ _) ?_
            -- end 6 (FFFFT)
            subst_vars
            exact ⟨rfl, rfl⟩
          · -- slot 13: 65 == x is False
            replace h11 : 65 ≠ x := by simpa using h11
            refine X.run 8 [0, 2, 3, 4, 5, 6, 7, 8, 9, 10, 11, 12, 13, 16] [] (.ex .normal) [.loop J10, .blk 0, .seq (cA B103 [1, 1])] ⟨17, [(0, .v (.int .i32 x)), (2, .v (.int .u8 0)), (3, .v (.bool false)), (4, .v (.int .i64 4)), (5, .v (.int .i32 65)), (6, .v (.agg #[.int .i32 70, .int .i32 83, .int .i32 82, .int .i32 80, .int .i32 65, .int .i32 85])), (7, .v (.int .i64 5)), (8, .v (.bool true)), (9, .v (.int .i64 4)), (10, .v (.int .i32 65)), (11, .v (.int .i32 65)), (12, .v (.int .i32 x)), (13, .v (.bool false)), (16, .v (.int .i64 5))], []⟩ (by kernel_rfl) ?_
            refine X.again (hJ10 _ _ _ ?_)
            refine RX.succ fun J12 hJ12 => ?_
            refine X.run 26 [0, 2, 3, 4, 5, 6, 7, 8, 9, 10, 11, 12, 13, 16] [] (.code (cA B103 [1, 0, 1, 0, 0, 1, 1, 0, 0, 1, 1])) [.blk 1, .seq (cA B103 [1, 0, 1, 0, 0, 1, 1, 1]), .loop J12, .blk 0, .seq (cA B103 [1, 1])] ⟨17, [(0, .v (.int .i32 x)), (2, .v (.int .u8 0)), (3, .v (.bool false)), (4, .v (.int .i64 5)), (5, .v (.int .i32 85)), (6, .v (.agg #[.int .i32 70, .int .i32 83, .int .i32 82, .int .i32 80, .int .i32 65, .int .i32 85])), (7, .v (.int .i64 5)), (8, .v (.bool true)), (9, .v (.int .i64 5)), (10, .v (.int .i32 85)), (11, .v (.int .i32 85)), (12, .v (.int .i32 x)), (13, .v (.bool (85 == x))), (16, .v (.int .i64 5))], []⟩ (by kernel_rfl) ?_
            refine X.split 13 rfl (fun h13 => ?_) (fun h13 => ?_)
            · -- slot 13: 85 == x is True
              replace h13 : 85 = x := by simpa using h13
              refine X.run 15 [2, 3] [] (.ex .ret) [] ⟨17, [(2, .v (.int .u8 32)), (3, .v (.bool true))], []⟩ (by kernel_rfl) ?_
              refine doneG (.inl rfl) [.int .u8 32, .bool true] [] (by kernel_rfl) rfl rfl (Ge.refl _ _) ?_
              -- end 7 (FFFFFT)
              subst_vars
              exact ⟨rfl, rfl⟩
            · -- slot 13: 85 == x is False
              replace h13 : 85 ≠ x := by simpa using h13
              refine X.run 8 [0, 2, 3, 4, 5, 6, 7, 8, 9, 10, 11, 12, 13, 16] [] (.ex .normal) [.loop J12, .blk 0, .seq (cA B103 [1, 1])] ⟨17, [(0, .v (.int .i32 x)), (2, .v (.int .u8 0)), (3, .v (.bool false)), (4, .v (.int .i64 5)), (5, .v (.int .i32 85)), (6, .v (.agg #[.int .i32 70, .int .i32 83, .int .i32 82, .int .i32 80, .int .i32 65, .int .i32 85])), (7, .v (.int .i64 6)), (8, .v (.bool true)), (9, .v (.int .i64 5)), (10, .v (.int .i32 85)), (11, .v (.int .i32 85)), (12, .v (.int .i32 x)), (13, .v (.bool false)), (16, .v (.int .i64 6))], []⟩ (by kernel_rfl) ?_
              refine X.again (hJ12 _ _ _ ?_)
              refine RX.succ fun J14 hJ14 => ?_
              refine X.run 19 [2, 3] [] (.ex .ret) [] ⟨17, [(2, .v (.int .u8 0)), (3, .v (.bool false))], []⟩ (by kernel_rfl) ?_
              refine doneG (.inl rfl) [.int .u8 0, .bool false] [] (by kernel_rfl) rfl rfl (Ge.refl _ _) ?_
              -- end 8 (FFFFFF)
              unfold fv
              rw [if_neg (by omega), if_neg (by omega), if_neg (by omega), if_neg (by omega), if_neg (by omega), if_neg (by omega)]
              exact ⟨rfl, rfl⟩

/-- leat/flags.Parse -/
noncomputable def B41 : Code := bodyOf Try.f41
set_option maxHeartbeats 1000000 in
theorem cParse_ok (z : ByteArray) (hz : z.size ≤ 60) (G : Mem) : CallsG Try.prog 41 [.string z] G (fun _ v rows => v = .tuple #[.int .u8 (prs z).1, .bool (prs z).2] ∧ rows = []) := by
  refine CallsG.enter Try.func41 rfl rfl ?_
  intro w
  refine X.run 13 [0, 2, 3, 10] [] (.code (cA B41 [1, 0, 1])) [.seq (cA B41 [1, 1])] ⟨34, [(0, .v (.string z)), (2, .v (.int .u8 0)), (3, .v (.bool false)), (10, .v (.bool (z.toList == (⟨#[45]⟩ : ByteArray).toList)))], []⟩ (by kernel_rfl) ?_
  refine X.split 10 rfl (fun h1 => ?_) (fun h1 => ?_)
  · -- slot 10: (z.toList == (⟨#[45]⟩ : ByteArray).toList) is True
    replace h1 : z = (⟨#[45]⟩ : ByteArray) := strT h1
    refine X.run 9 [2, 3] [] (.ex .ret) [] ⟨34, [(2, .v (.int .u8 0)), (3, .v (.bool true))], []⟩ (by kernel_rfl) ?_
    refine doneG (.inl rfl) [.int .u8 0, .bool true] [] (by kernel_rfl) rfl rfl (Ge.refl _ _) ?_
    -- end 1 (T)
    refine ⟨?_, rfl⟩
    unfold prs; rw [if_pos (by assumption)]; rfl
  · -- slot 10: (z.toList == (⟨#[45]⟩ : ByteArray).toList) is False
    replace h1 : z ≠ (⟨#[45]⟩ : ByteArray) := strF h1
    refine X.run 12 [2, 3, 4, 11] [] (.ops (aA B41 [1, 1, 1, 0, 0]) (oA B41 [1, 1, 1, 0, 0] 1 :: lA B41 [1, 1, 1, 0, 0] 2)) [.seq (cA B41 [1, 1, 1, 0, 1]), .seq (cA B41 [1, 1, 1, 1])] ⟨34, [(2, .v (.int .u8 0)), (3, .v (.bool false)), (4, .v (.int .u8 0)), (11, .v (.string z))], []⟩ (by kernel_rfl) ?_
    refine X.rangeStr (t := 9) (x := .tmp 11) (b := z) (by kernel_rfl) (by kernel_rfl) (by kernel_rfl) (by kernel_rfl) ?_
    intro g2 G2 hg2 hgn2 hG2 hat2
    refine X.run 3 [2, 3, 4, 12] [] (.code (cA B41 [1, 1, 1, 0, 1, 0])) [.blk 0, .seq (cA B41 [1, 1, 1, 1])] ⟨34, [(2, .v (.int .u8 0)), (3, .v (.bool false)), (4, .v (.int .u8 0)), (12, .v (itOf g2))], []⟩ (by kernel_rfl) ?_
    refine X.run 0 [4, 12] [] (.code (cA B41 [1, 1, 1, 0, 1, 0])) [.blk 0, .seq (cA B41 [1, 1, 1, 1])] ⟨34, [(4, .v (.int .u8 0)), (12, .v (itOf g2))], []⟩ (by kernel_rfl) ?_
    refine X.loopJ (fun m s R' G' => ∃ (q : Int) (pos : Nat), s = ⟨34, [(4, .v (.int .u8 q)), (12, .v (itOf g2))], []⟩ ∧ R' = [] ∧ (Ge G w.heap.size G' ∧ G' g2 = some (.stringIter z pos)) ∧ (pos ≤ z.size ∧ 0 ≤ q ∧ q < 64 ∧ pr (bytesL z) 0 = pr ((bytesL z).drop pos) q) ∧ m = z.size - pos) _ ⟨0, 0, rfl, rfl, ⟨hG2, hat2⟩, ⟨Nat.zero_le _, by decide, by decide, rfl⟩, rfl⟩ ?_
    rintro m3 s3 R3 G3 ⟨q, pos, rfl, rfl, hG3, hF3, rfl⟩ J3 hJ3
    obtain ⟨hG3, hat3⟩ := hG3
    obtain ⟨hq0, hq1, hq2, hq3⟩ := hF3
    refine X.run 2 [4, 12] [] (.ops (aA B41 [1, 1, 1, 0, 1, 0, 0, 0]) (oA B41 [1, 1, 1, 0, 1, 0, 0, 0] 0 :: lA B41 [1, 1, 1, 0, 1, 0, 0, 0] 1)) [.seq (cA B41 [1, 1, 1, 0, 1, 0, 0, 1]), .loop J3, .blk 0, .seq (cA B41 [1, 1, 1, 1])] ⟨34, [(4, .v (.int .u8 q)), (12, .v (itOf g2))], []⟩ (by kernel_rfl) ?_
    by_cases hp4 : pos < z.size
    · -- next True
      refine X.nextStr (x := .tmp 12) (b := z) (g := g2) (pos := pos) hG3 hgn2 (by kernel_rfl) (by kernel_rfl) hat3 hg2 hp4 (by kernel_rfl) ?_
      intro G4 hG4 hat4
      refine X.run 17 [4, 12, 17] [] (.ops (aA B41 [1, 1, 1, 0, 1, 0, 0, 1, 1, 0, 1, 0]) (oA B41 [1, 1, 1, 0, 1, 0, 0, 1, 1, 0, 1, 0] 1 :: lA B41 [1, 1, 1, 0, 1, 0, 0, 1, 1, 0, 1, 0] 2)) [.seq (cA B41 [1, 1, 1, 0, 1, 0, 0, 1, 1, 0, 1, 1]), .blk 1, .loop J3, .blk 0, .seq (cA B41 [1, 1, 1, 1])] ⟨34, [(4, .v (.int .u8 q)), (12, .v (itOf g2)), (17, .v (.int .i32 ((Utf8.decode z pos).1 : Int)))], []⟩ (by kernel_rfl) ?_
      refine X.callG (f := 103) (l := [.v (.int .i32 ((Utf8.decode z pos).1 : Int))]) [.int .i32 ((Utf8.decode z pos).1 : Int)] 0 (by kernel_rfl) (by kernel_rfl) (by kernel_rfl) (flag_ok ((Utf8.decode z pos).1 : Int) _) ?_
      rintro v5 G5 rows5 hG5 ⟨rfl, rfl⟩
      replace hat4 := hG5.le _ _ hat4
      refine X.run 13 [4, 7, 12, 23] [] (.ops (aA B41 [1, 1, 1, 0, 1, 0, 0, 1, 1, 0, 1, 1, 0, 0]) (oA B41 [1, 1, 1, 0, 1, 0, 0, 1, 1, 0, 1, 1, 0, 0] 3 :: lA B41 [1, 1, 1, 0, 1, 0, 0, 1, 1, 0, 1, 1, 0, 0] 4)) [.seq (cA B41 [1, 1, 1, 0, 1, 0, 0, 1, 1, 0, 1, 1, 0, 1]), .seq (cA B41 [1, 1, 1, 0, 1, 0, 0, 1, 1, 0, 1, 1, 1]), .blk 1, .loop J3, .blk 0, .seq (cA B41 [1, 1, 1, 1])] ⟨34, [(4, .v (.int .u8 q)), (7, .v (.int .u8 (fv ((Utf8.decode z pos).1 : Int)))), (12, .v (itOf g2)), (23, .v (.bool (!(fv ((Utf8.decode z pos).1 : Int) != 0))))], []⟩ (by kernel_rfl) ?_
      refine X.split 23 rfl (fun h6 => ?_) (fun h6 => ?_)
      · -- slot 23: !(fv ((Utf8.decode z pos).1 : Int) != 0) is True
        replace h6 : (fv ((Utf8.decode z pos).1 : Int) != 0) = false := by simpa using h6
        replace h6 : fv ((Utf8.decode z pos).1 : Int) = 0 := by simpa using h6
        refine X.run 20 [2, 3] [] (.ex .ret) [] ⟨34, [(2, .v (.int .u8 0)), (3, .v (.bool false))], []⟩ (by kernel_rfl) ?_
        refine doneG (.inl rfl) [.int .u8 0, .bool false] [] (by kernel_rfl) rfl rfl ((hG4.trans hG5)) ?_
        -- end 2 (FTT)
        refine ⟨?_, rfl⟩
        have hd_ := dec_fv (by assumption)
        have hn_ : pr (bytesL z) 0 = none := by
          rw [hq3, bytesL_drop (by assumption)]
          exact pr_stop (by rw [← hd_.1]; first | (left; assumption) | (right; assumption) | (left; simpa using (by assumption)))
        unfold prs; rw [if_neg (by assumption), hn_]; rfl
      · -- slot 23: !(fv ((Utf8.decode z pos).1 : Int) != 0) is False
        replace h6 : (fv ((Utf8.decode z pos).1 : Int) != 0) = true := by simpa using h6
        replace h6 : fv ((Utf8.decode z pos).1 : Int) ≠ 0 := by simpa using h6
        refine X.run 7 [4, 7, 12, 28] [] (.code (cA B41 [1, 1, 1, 0, 1, 0, 0, 1, 1, 0, 1, 1, 0, 1])) [.seq (cA B41 [1, 1, 1, 0, 1, 0, 0, 1, 1, 0, 1, 1, 1]), .blk 1, .loop J3, .blk 0, .seq (cA B41 [1, 1, 1, 1])] ⟨34, [(4, .v (.int .u8 q)), (7, .v (.int .u8 (fv ((Utf8.decode z pos).1 : Int)))), (12, .v (itOf g2)), (28, .v (.bool ((band .u8 q (fv ((Utf8.decode z pos).1 : Int))) != 0)))], []⟩ (by kernel_rfl) ?_
        refine X.split 28 rfl (fun h7 => ?_) (fun h7 => ?_)
        · -- slot 28: (band .u8 q (fv ((Utf8.decode z pos).1 : Int))) != 0 is True
          replace h7 : (band .u8 q (fv ((Utf8.decode z pos).1 : Int))) ≠ 0 := by simpa using h7
          refine X.run 13 [2, 3] [] (.ex .ret) [] ⟨34, [(2, .v (.int .u8 0)), (3, .v (.bool false))], []⟩ (by kernel_rfl) ?_
          refine doneG (.inl rfl) [.int .u8 0, .bool false] [] (by kernel_rfl) rfl rfl ((hG4.trans hG5)) ?_
          -- end 3 (FTFT)
          refine ⟨?_, rfl⟩
          have hd_ := dec_fv (by assumption)
          have hn_ : pr (bytesL z) 0 = none := by
            rw [hq3, bytesL_drop (by assumption)]
            exact pr_stop (by rw [← hd_.1]; first | (left; assumption) | (right; assumption) | (left; simpa using (by assumption)))
          unfold prs; rw [if_neg (by assumption), hn_]; rfl
        · -- slot 28: (band .u8 q (fv ((Utf8.decode z pos).1 : Int))) != 0 is False
          replace h7 : (band .u8 q (fv ((Utf8.decode z pos).1 : Int))) = 0 := by simpa using h7
          refine X.run 10 [4, 12] [] (.ex .normal) [.loop J3, .blk 0, .seq (cA B41 [1, 1, 1, 1])] ⟨34, [(4, .v (.int .u8 (bor .u8 q (fv ((Utf8.decode z pos).1 : Int))))), (12, .v (itOf g2))], []⟩ (by kernel_rfl) ?_
          -- again (FTFF)
          have hd_ := dec_fv (by assumption)
          have h6_ : fv ((Utf8.decode z pos).1 : Int) ≠ 0 := by assumption
          have h7_ : band .u8 q (fv ((Utf8.decode z pos).1 : Int)) = 0 := by assumption
          rw [hd_.1] at h6_ h7_
          have hg_ := pr_go (l := (bytesL z).drop (pos + 1)) hq1 hq2 h6_ h7_
          have hw_ := hd_.2 h6_
          exact X.again (hJ3 _ _ _ _ ⟨bor .u8 q (fv ((Utf8.decode z pos).1 : Int)), pos + (Utf8.decode z pos).2, rfl, rfl, ⟨(hG4.trans hG5), hat4⟩, ⟨by rw [hw_]; omega, by rw [hd_.1]; exact hg_.2.1, by rw [hd_.1]; exact hg_.2.2, by rw [hq3, bytesL_drop (by assumption), hg_.1, hd_.1, hw_]⟩, rfl⟩ (by rw [hw_]; omega))
    · -- next False
      refine X.nextEnd (x := .tmp 12) (b := z) (g := g2) (pos := pos) (by kernel_rfl) (by kernel_rfl) hat3 hp4 (by kernel_rfl) ?_
      refine X.run 19 [2, 3] [] (.ex .ret) [] ⟨34, [(2, .v (.int .u8 (band .u8 q 63))), (3, .v (.bool true))], []⟩ (by kernel_rfl) ?_
      refine doneG (.inl rfl) [.int .u8 (band .u8 q 63), .bool true] [] (by kernel_rfl) rfl rfl (hG3) ?_
      -- end 4 (FF)
      refine ⟨?_, rfl⟩
      have hn_ : pr (bytesL z) 0 = some q := by
        rw [hq3, List.drop_of_length_le (by rw [bytesL_len]; omega)]; rfl
      unfold prs; rw [if_neg (by assumption), hn_, low63 hq1 hq2]; rfl
end Go.Proofs.YtjgpdbkkpomhjaaX
