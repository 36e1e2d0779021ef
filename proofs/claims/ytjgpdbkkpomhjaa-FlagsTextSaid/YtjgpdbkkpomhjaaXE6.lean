/- leatref11.num -/
import Derived.Test.YtjgpdbkkpomhjaaProg
import Derived.KernelRfl
import Derived.Test.YtjgpdbkkpomhjaaXE5
import Derived.Test.YtjgpdbkkpomhjaaXQ
import Derived.Test.YtjgpdbkkpomhjaaXS1
namespace Go.Proofs.YtjgpdbkkpomhjaaX
open Go.RowKit
set_option linter.unusedVariables false
set_option linter.unusedSimpArgs false
set_option maxRecDepth 100000
def numB (l : List Int) : Int := l.foldl (fun a x => a * 256 + x) 0
theorem numB_snoc (l : List Int) (x : Int) : numB (l ++ [x]) = numB l * 256 + x := by simp [numB]
theorem numB_take {l : List Int} {i : Nat} (h : i < l.length) : numB (l.take (i + 1)) = numB (l.take i) * 256 + l.getD i 0 := by
  rw [List.take_succ_eq_append_getElem h, numB_snoc]
  simp [h]
theorem bytes_at {l : List Int} (h : isBytes l) (i : Nat) (hi : i < l.length) : 0 ≤ l.getD i 0 ∧ l.getD i 0 ≤ 255 := by
  have := h (l.getD i 0) (by rw [List.getD_eq_getElem?_getD, List.getElem?_eq_getElem hi]; exact List.getElem_mem hi)
  exact this
theorem numB_bd {l : List Int} (h : isBytes l) (h4 : l.length ≤ 4) : ∀ i, i ≤ l.length → 0 ≤ numB (l.take i) ∧ numB (l.take i) < 256 ^ i := by
  intro i
  induction i with
  | zero => intro _; simp [numB]
  | succ i ih =>
    intro hi
    have := ih (by omega)
    rw [numB_take (by omega)]
    have hb := bytes_at h i (by omega)
    rw [Int.pow_succ]
    omega

/-- leat/leatref11.num -/
noncomputable def B101 : Code := bodyOf Try.f101
set_option maxHeartbeats 1000000 in
theorem num_ok (A : Option Addr) (c : Nat) (b : List Int) (G : Mem) (hb : rowAt (D.int .u8) G A b) (hle : b.length ≤ c) (hmx : c ≤ maxLen) (h4 : b.length ≤ 4) : CallsG Try.prog 101 [.slice A b.length c] G (fun _ v rows => v = .int .u32 (numB b) ∧ rows = []) := by
  simp only [maxLen] at hmx
  have hby := row_bytes hb
  refine CallsG.enter Try.func101 rfl rfl ?_
  intro w
  refine X.run 17 [0, 2, 3, 4] [] (.code (cA B101 [1, 1, 0, 1, 0])) [.blk 0, .seq (cA B101 [1, 1, 1])] ⟨20, [(0, .v (.slice A b.length c)), (2, .v (.int .u32 0)), (3, .v (.int .u32 0)), (4, .v (.int .i64 0))], []⟩ (by kernel_rfl) ?_
  refine X.loopJ (fun m s R' G' => ∃ (q i : Int), s = ⟨20, [(0, .v (.slice A b.length c)), (2, .v (.int .u32 0)), (3, .v (.int .u32 q)), (4, .v (.int .i64 i))], []⟩ ∧ R' = [] ∧ G = G' ∧ (0 ≤ i ∧ i ≤ (b.length : Int) ∧ q = numB (b.take i.toNat)) ∧ m = ((b.length : Int) - i).toNat) _ ⟨0, 0, rfl, rfl, rfl, ⟨by omega, by omega, by simp [numB]⟩, rfl⟩ ?_
  rintro m1 s1 R1 G1 ⟨q, i, rfl, rfl, rfl, hF1, rfl⟩ J1 hJ1
  obtain ⟨hi0, hi1, hi2⟩ := hF1
  have hbd := numB_bd hby h4 i.toNat (by omega)
  have hpw : (256 : Int) ^ i.toNat ≤ 4294967296 ∧ (i < (b.length : Int) → (256 : Int) ^ i.toNat ≤ 16777216) := by
    have : i.toNat = 0 ∨ i.toNat = 1 ∨ i.toNat = 2 ∨ i.toNat = 3 ∨ i.toNat = 4 := by omega
    rcases this with h | h | h | h | h <;> rw [h] <;> constructor <;> first | decide | (intro; first | decide | omega)
  refine X.run 9 [0, 2, 3, 4, 8] [] (.code (cA B101 [1, 1, 0, 1, 0, 0, 0, 1])) [.seq (cA B101 [1, 1, 0, 1, 0, 0, 1]), .loop J1, .blk 0, .seq (cA B101 [1, 1, 1])] ⟨20, [(0, .v (.slice A b.length c)), (2, .v (.int .u32 0)), (3, .v (.int .u32 q)), (4, .v (.int .i64 i)), (8, .v (.bool (decide (i < ((b.length : Nat) : Int)))))], []⟩ (by kernel_rfl) ?_
  refine X.split 8 rfl (fun h2 => ?_) (fun h2 => ?_)
  · -- slot 8: decide (i < ((b.length : Nat) : Int)) is True
    replace h2 : i < ((b.length : Nat) : Int) := of_decide_eq_true h2
    refine X.run 10 [0, 2, 3, 4, 12, 13, 14] [] (.ops (aA B101 [1, 1, 0, 1, 0, 0, 1, 0, 0]) (oA B101 [1, 1, 0, 1, 0, 0, 1, 0, 0] 4 :: lA B101 [1, 1, 0, 1, 0, 0, 1, 0, 0] 5)) [.blk 1, .seq (cA B101 [1, 1, 0, 1, 0, 0, 1, 1]), .loop J1, .blk 0, .seq (cA B101 [1, 1, 1])] ⟨20, [(0, .v (.slice A b.length c)), (2, .v (.int .u32 0)), (3, .v (.int .u32 q)), (4, .v (.int .i64 i)), (12, .v (.int .u32 (IntKind.u32.wrap (q * 256)))), (13, .v (.slice A b.length c)), (14, .v (.int .i64 i))], []⟩ (by kernel_rfl) ?_
    have b3 : (0 : Int) ≤ i := by omega
    have b4 : i < ((b.length : Nat) : Int) := by omega
    refine X.index (t := 22) (e := 5) (sz := 1) (A := A) (n := b.length) (c := c) (ki := .i64) (i := i) (x := .tmp 13) (ix := .tmp 14) (by kernel_rfl) (by kernel_rfl) (by kernel_rfl) (by kernel_rfl) (by kernel_rfl) (by kernel_rfl) b3 b4 (fun _ _ => rowAt.so hb (by omega)) ?_
    obtain ⟨at5, lo5, hi5⟩ := At.int [] hb ((i).toNat) (by omega)
    simp only [IntKind.lo, IntKind.hi] at lo5 hi5
    refine X.run 0 [0, 2, 3, 4, 12, 15] [] (.ops (aA B101 [1, 1, 0, 1, 0, 0, 1, 0, 0]) (oA B101 [1, 1, 0, 1, 0, 0, 1, 0, 0] 5 :: lA B101 [1, 1, 0, 1, 0, 0, 1, 0, 0] 6)) [.blk 1, .seq (cA B101 [1, 1, 0, 1, 0, 0, 1, 1]), .loop J1, .blk 0, .seq (cA B101 [1, 1, 1])] ⟨20, [(0, .v (.slice A b.length c)), (2, .v (.int .u32 0)), (3, .v (.int .u32 q)), (4, .v (.int .i64 i)), (12, .v (.int .u32 (IntKind.u32.wrap (q * 256)))), (15, .v (elt A ((i).toNat * 1)))], []⟩ (by kernel_rfl) ?_
    refine X.load (t := 5) (A := A) (j := (i).toNat * 1) (x := .tmp 15) (z := .int .u8 (b.getD ((i).toNat) 0)) [.int .u8 (b.getD ((i).toNat) 0)] (by kernel_rfl) (by kernel_rfl) at5 (by kernel_rfl) (by kernel_rfl) ?_
    refine X.run 11 [0, 2, 3, 4] [] (.ex .normal) [.loop J1, .blk 0, .seq (cA B101 [1, 1, 1])] ⟨20, [(0, .v (.slice A b.length c)), (2, .v (.int .u32 0)), (3, .v (.int .u32 (IntKind.u32.wrap ((IntKind.u32.wrap (q * 256)) + (IntKind.u32.wrap (b.getD ((i).toNat) 0)))))), (4, .v (.int .i64 (IntKind.i64.wrap (i + 1))))], []⟩ (by kernel_rfl) ?_
    -- again (T)
    have e1 : IntKind.i64.wrap (i + 1) = i + 1 := wi64 (by omega) (by omega)
    have e0 : (i + 1).toNat = i.toNat + 1 := by omega
    have hbb := bytes_at hby i.toNat (by omega)
    rw [← hi2] at hbd
    have hq := hpw.2 (by omega)
    exact X.again (hJ1 _ _ _ _ ⟨IntKind.u32.wrap (IntKind.u32.wrap (q * 256) + IntKind.u32.wrap (b.getD (i.toNat) 0)), IntKind.i64.wrap (i + 1), rfl, rfl, rfl, ⟨by omega, by omega, by rw [e1, e0, numB_take (by omega), ← hi2, wu32 (x := q * 256) (by omega) (by omega), wu32 (x := b.getD i.toNat 0) (by omega) (by omega), wu32 (by omega) (by omega)]⟩, rfl⟩ (by rw [e1]; omega))
  · -- slot 8: decide (i < ((b.length : Nat) : Int)) is False
    replace h2 : ¬ (i < ((b.length : Nat) : Int)) := of_decide_eq_false h2
    refine X.run 13 [2] [] (.ex .ret) [] ⟨20, [(2, .v (.int .u32 q))], []⟩ (by kernel_rfl) ?_
    refine doneG (.inl rfl) [.int .u32 q] [] (by kernel_rfl) rfl rfl (Ge.refl _ _) ?_
    -- end 1 (F)
    refine ⟨?_, rfl⟩
    rw [hi2, List.take_of_length_le (by omega)]
    rfl
end Go.Proofs.YtjgpdbkkpomhjaaX
