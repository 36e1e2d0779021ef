/- FlagsDecodes -/
import Derived.Test.YtjgpdbkkpomhjaaProg
import Derived.KernelRfl
import Derived.Test.YtjgpdbkkpomhjaaXE7
import Derived.Test.YtjgpdbkkpomhjaaXS2
namespace Go.Proofs.YtjgpdbkkpomhjaaX
open Go.RowKit
set_option linter.unusedVariables false
set_option linter.unusedSimpArgs false
set_option maxRecDepth 100000
theorem decEq {b : List Int} (hby : isBytes b) (h20 : 20 ≤ b.length) : dec11 b = ref39 b := by
  have g : ∀ j, j < b.length → 0 ≤ b.getD j 0 ∧ b.getD j 0 ≤ 255 := fun j hj => bytes_at hby j hj
  have c0 := cut2 (b := b) 0 (by omega)
  simp only [Nat.zero_add, Nat.reduceAdd] at c0
  have c2 := cut2 (b := b) 2 (by omega)
  simp only [Nat.zero_add, Nat.reduceAdd] at c2
  have c14 := cut2 (b := b) 14 (by omega)
  simp only [Nat.zero_add, Nat.reduceAdd] at c14
  have c16 := cut2 (b := b) 16 (by omega)
  simp only [Nat.zero_add, Nat.reduceAdd] at c16
  have c18 := cut2 (b := b) 18 (by omega)
  simp only [Nat.zero_add, Nat.reduceAdd] at c18
  have c4 := cut4 (b := b) 4 (by omega)
  simp only [Nat.zero_add, Nat.reduceAdd] at c4
  have c8 := cut4 (b := b) 8 (by omega)
  simp only [Nat.zero_add, Nat.reduceAdd] at c8
  have e0 : bor .u16 (bshl .u16 (IntKind.u16.wrap (b.getD 0 0)) 8) (IntKind.u16.wrap (b.getD 1 0)) = IntKind.u16.wrap (numB ((b.take 2).drop 0)) := by
    have := g 0 (by omega)
    have := g 1 (by omega)
    rw [or16 (g 0 (by omega)) (g 1 (by omega)), c0, wu16 (by omega) (by omega)]
  have e1 : bor .u16 (bshl .u16 (IntKind.u16.wrap (b.getD 2 0)) 8) (IntKind.u16.wrap (b.getD 3 0)) = IntKind.u16.wrap (numB ((b.take 4).drop 2)) := by
    have := g 2 (by omega)
    have := g 3 (by omega)
    rw [or16 (g 2 (by omega)) (g 3 (by omega)), c2, wu16 (by omega) (by omega)]
  have e2 : bor .u32 (bshl .u32 (IntKind.u32.wrap (bor .u16 (bshl .u16 (IntKind.u16.wrap (b.getD 4 0)) 8) (IntKind.u16.wrap (b.getD 5 0)))) 16) (IntKind.u32.wrap (bor .u16 (bshl .u16 (IntKind.u16.wrap (b.getD 6 0)) 8) (IntKind.u16.wrap (b.getD 7 0)))) = numB ((b.take 8).drop 4) := by
    have := g 4 (by omega)
    have := g 5 (by omega)
    have := g 6 (by omega)
    have := g 7 (by omega)
    rw [or16 (g 4 (by omega)) (g 5 (by omega)), or16 (g 6 (by omega)) (g 7 (by omega)), or32 (by omega) (by omega), c4]
  have e3 : bor .u32 (bshl .u32 (IntKind.u32.wrap (bor .u16 (bshl .u16 (IntKind.u16.wrap (b.getD 8 0)) 8) (IntKind.u16.wrap (b.getD 9 0)))) 16) (IntKind.u32.wrap (bor .u16 (bshl .u16 (IntKind.u16.wrap (b.getD 10 0)) 8) (IntKind.u16.wrap (b.getD 11 0)))) = numB ((b.take 12).drop 8) := by
    have := g 8 (by omega)
    have := g 9 (by omega)
    have := g 10 (by omega)
    have := g 11 (by omega)
    rw [or16 (g 8 (by omega)) (g 9 (by omega)), or16 (g 10 (by omega)) (g 11 (by omega)), or32 (by omega) (by omega), c8]
  have e4 : bshr .u8 (b.getD 12 0) 4 = IntKind.u8.wrap (Int.tdiv (b.getD 12 0) 16) := hi4 (g 12 (by omega))
  have e5 : bor .u8 (bshl .u8 (band .u8 (b.getD 12 0) 1) 2) (bshr .u8 (b.getD 13 0) 6) = IntKind.u8.wrap ((IntKind.u8.wrap ((Int.tmod (b.getD 12 0) 2) * 4)) + (IntKind.u8.wrap (Int.tdiv (b.getD 13 0) 64))) := ace2 (g 12 (by omega)) (g 13 (by omega))
  have e6 : band .u8 (b.getD 13 0) 63 = Int.tmod (b.getD 13 0) 64 := lo6 (g 13 (by omega))
  have e7 : bor .u16 (bshl .u16 (IntKind.u16.wrap (b.getD 14 0)) 8) (IntKind.u16.wrap (b.getD 15 0)) = IntKind.u16.wrap (numB ((b.take 16).drop 14)) := by
    have := g 14 (by omega)
    have := g 15 (by omega)
    rw [or16 (g 14 (by omega)) (g 15 (by omega)), c14, wu16 (by omega) (by omega)]
  have e8 : bor .u16 (bshl .u16 (IntKind.u16.wrap (b.getD 16 0)) 8) (IntKind.u16.wrap (b.getD 17 0)) = IntKind.u16.wrap (numB ((b.take 18).drop 16)) := by
    have := g 16 (by omega)
    have := g 17 (by omega)
    rw [or16 (g 16 (by omega)) (g 17 (by omega)), c16, wu16 (by omega) (by omega)]
  have e9 : bor .u16 (bshl .u16 (IntKind.u16.wrap (b.getD 18 0)) 8) (IntKind.u16.wrap (b.getD 19 0)) = IntKind.u16.wrap (numB ((b.take 20).drop 18)) := by
    have := g 18 (by omega)
    have := g 19 (by omega)
    rw [or16 (g 18 (by omega)) (g 19 (by omega)), c18, wu16 (by omega) (by omega)]
  unfold dec11 ref39
  rw [e0, e1, e2, e3, e4, e5, e6, e7, e8, e9]

theorem decBad {b : List Int} (hby : isBytes b) (h20 : 20 ≤ b.length) : (bshr .u8 (b.getD 12 0) 4 < 5 ∨ band .u8 (bshr .u8 (b.getD 12 0) 1) 7 ≠ 0) ↔ (IntKind.u8.wrap (Int.tdiv (b.getD 12 0) 16) < 5 ∨ 1 < Int.tmod (b.getD 12 0) 16) := badEq (bytes_at hby 12 (by omega))

noncomputable def fsOf (t : TypeId) : Array Field := match Try.prog.underlying t with
  | some (.struct fs) => fs
  | _ => #[]

/-- leat/leatlaw11.FlagsDecodes -/
noncomputable def B6 : Code := bodyOf Try.f6
set_option maxHeartbeats 4000000 in
theorem FlagsDecodes_ok (A : Option Addr) (c : Nat) (b : List Int) (G : Mem) (hb : rowAt (D.int .u8) G A b) (hle : b.length ≤ c) (hmx : c ≤ maxLen) : CallsG Try.prog 6 [.slice A b.length c] G (fun _ v rows => v = .bool true ∧ rows = []) := by
  simp only [maxLen] at hmx
  refine CallsG.enter Try.func6 rfl rfl ?_
  intro w
  refine X.run 11 [0, 2, 7, 10] [] (.ops (aA B6 [1, 0]) (oA B6 [1, 0] 4 :: lA B6 [1, 0] 5)) [.seq (cA B6 [1, 1])] ⟨33, [(0, .v (.slice A b.length c)), (2, .v (.bool false)), (7, .v (.slice A b.length c)), (10, .v (.int .i64 (imin ((b.length : Nat) : Int) 60)))], []⟩ (by kernel_rfl) ?_
  refine X.known 10 (y := .v (.int .i64 (min ((b.length : Nat) : Int) 60))) rfl (congrArg (fun z_ => AV.v (.int .i64 z_)) (by simp only [imin_eq, imax_eq])) ?_
  have hlo1 : 0 ≤ (min ((b.length : Nat) : Int) 60).toNat := by omega
  have hhi1 : (min ((b.length : Nat) : Int) 60).toNat ≤ b.length := by omega
  refine X.cut (t := 22) (e := 5) (sz := 1) (n := b.length) (c := c) (A := A) (x := .tmp 7) (l := none) (h := (some (.tmp 10))) (lv := none) (hv := (some (.int .i64 (min ((b.length : Nat) : Int) 60)))) 0 ((min ((b.length : Nat) : Int) 60).toNat) (by kernel_rfl) (by kernel_rfl) (by kernel_rfl) (by kernel_rfl) (by kernel_rfl) (by kernel_rfl) (by kernel_rfl) (rfl) (⟨_, _, rfl, by omega, rfl⟩) hlo1 (Nat.le_trans hhi1 hle) ?_
  obtain ⟨A1, hA1⟩ : ∃ A_, cutA A c 0 1 = A_ := ⟨_, rfl⟩
  obtain ⟨ys1, hys1⟩ : ∃ l_, (b.take ((min ((b.length : Nat) : Int) 60).toNat)).drop 0 = l_ := ⟨_, rfl⟩
  have hr1 : rowAt (D.int .u8) G (cutA A c 0 1) ((b.take ((min ((b.length : Nat) : Int) 60).toNat)).drop 0) := rowAt_cut hb hlo1 hhi1 hle
  have hl1 : ((min ((b.length : Nat) : Int) 60).toNat) - 0 = ys1.length := by rw [← hys1, List.length_drop, List.length_take]; omega
  have hc1 : ys1.length ≤ c - 0 := by omega
  have hm1 : c - 0 ≤ maxLen := Nat.le_trans (Nat.sub_le _ _) hmx
  rw [hys1, show cutA A c 0 _ = A1 from hA1] at hr1
  rw [hA1, hl1]
  refine X.run 6 [0, 2, 13] [] (.ops (aA B6 [1, 1, 0]) (oA B6 [1, 1, 0] 1 :: lA B6 [1, 1, 0] 2)) [.seq (cA B6 [1, 1, 1])] ⟨33, [(0, .v (.slice A1 ys1.length (c - 0))), (2, .v (.bool false)), (13, .v (.slice A1 ys1.length (c - 0)))], []⟩ (by kernel_rfl) ?_
  refine X.callG (f := 38) (l := [.v (.slice A1 ys1.length (c - 0))]) [.slice A1 ys1.length (c - 0)] 0 (by kernel_rfl) (by kernel_rfl) (by kernel_rfl) (Dec11_ok _ _ ys1 _ hr1 hc1) ?_
  rintro v2 G2 rows2 hG2 ⟨ea2, eb2, ec2, rfl⟩
  replace hb := hb.mono hG2.le
  replace hr1 := hr1.mono hG2.le
  have hby2 := row_bytes hr1
  rcases (show ys1.length < 20 ∨ (20 ≤ ys1.length ∧ (bshr .u8 (ys1.getD 12 0) 4 < 5 ∨ band .u8 (bshr .u8 (ys1.getD 12 0) 1) 7 ≠ 0)) ∨ (20 ≤ ys1.length ∧ ¬ (bshr .u8 (ys1.getD 12 0) 4 < 5 ∨ band .u8 (bshr .u8 (ys1.getD 12 0) 1) 7 ≠ 0)) by by_cases h1 : ys1.length < 20; exact .inl h1; by_cases h2 : (bshr .u8 (ys1.getD 12 0) 4 < 5 ∨ band .u8 (bshr .u8 (ys1.getD 12 0) 1) 7 ≠ 0); exact .inr (.inl ⟨by omega, h2⟩); exact .inr (.inr ⟨by omega, h2⟩)) with hc2 | hc2 | hc2
  · -- case 0
    obtain rfl := ea2 hc2
    refine X.run 11 [2, 3, 4, 18] [3] (.ops (aA B6 [1, 1, 1, 0]) (oA B6 [1, 1, 1, 0] 1 :: lA B6 [1, 1, 1, 0] 2)) [.seq (cA B6 [1, 1, 1, 1])] ⟨33, [(2, .v (.bool false)), (3, .own 3 0), (4, .v (.int .i64 3)), (18, .v (.slice A1 ys1.length (c - 0)))], [(3, ⟨31, [.v (.int .u16 0), .v (.int .u16 0), .v (.int .u32 0), .v (.int .u32 0), .v (.int .u8 0), .v (.int .u8 0), .v (.int .u8 0), .v (.int .u16 0), .v (.int .u16 0), .v (.int .u16 0)]⟩)]⟩ (by kernel_rfl) ?_
    refine X.callG (f := 39) (l := [.v (.slice A1 ys1.length (c - 0))]) [.slice A1 ys1.length (c - 0)] 0 (by kernel_rfl) (by kernel_rfl) (by kernel_rfl) (RefDec_ok _ _ ys1 _ hr1 hc1 hm1) ?_
    rintro v3 G3 rows3 hG3 ⟨ea3, eb3, ec3, rfl⟩
    replace hb := hb.mono hG3.le
    replace hr1 := hr1.mono hG3.le
    obtain rfl := ea3 hc2
    refine X.run 12 [2, 4, 6, 22, 23] [] (.ops (aA B6 [1, 1, 1, 1, 0]) (oA B6 [1, 1, 1, 1, 0] 2 :: lA B6 [1, 1, 1, 1, 0] 3)) [.seq (cA B6 [1, 1, 1, 1, 1])] ⟨33, [(2, .v (.bool false)), (4, .v (.int .i64 3)), (6, .v (.int .i64 3)), (22, .v (.agg #[.int .u16 0, .int .u16 0, .int .u32 0, .int .u32 0, .int .u8 0, .int .u8 0, .int .u8 0, .int .u16 0, .int .u16 0, .int .u16 0])), (23, .v (.agg #[.int .u16 0, .int .u16 0, .int .u32 0, .int .u32 0, .int .u8 0, .int .u8 0, .int .u8 0, .int .u16 0, .int .u16 0, .int .u16 0]))], []⟩ (by kernel_rfl) ?_
    refine X.eqAgg (t := 31) (t' := 31) (x := .tmp 22) (y := .tmp 23) (xs := #[.int .u16 0, .int .u16 0, .int .u32 0, .int .u32 0, .int .u8 0, .int .u8 0, .int .u8 0, .int .u16 0, .int .u16 0, .int .u16 0]) (ys := #[.int .u16 0, .int .u16 0, .int .u32 0, .int .u32 0, .int .u8 0, .int .u8 0, .int .u8 0, .int .u16 0, .int .u16 0, .int .u16 0]) (fs := fsOf 31) (b := (((0 : Int) == 0) && (((0 : Int) == 0) && (((0 : Int) == 0) && (((0 : Int) == 0) && (((0 : Int) == 0) && (((0 : Int) == 0) && (((0 : Int) == 0) && (((0 : Int) == 0) && (((0 : Int) == 0) && (((0 : Int) == 0) && true))))))))))) (by kernel_rfl) (by kernel_rfl) (by kernel_rfl) (by kernel_rfl) (by kernel_rfl) (by kernel_rfl) (by kernel_rfl) (by kernel_rfl) ?_
    refine X.known 24 (y := .v (.bool true)) rfl (congrArg (fun z_ => AV.v (.bool z_)) (by simp)) ?_
    refine X.run 6 [2, 30] [] (.ops (aA B6 [1, 1, 1, 1, 0]) (oA B6 [1, 1, 1, 1, 0] 9 :: lA B6 [1, 1, 1, 1, 0] 10)) [.seq (cA B6 [1, 1, 1, 1, 1])] ⟨33, [(2, .v (.bool false)), (30, .v (.bool true))], []⟩ (by kernel_rfl) ?_
    refine X.callG (f := 34) (l := []) [] 0 (by kernel_rfl) (by kernel_rfl) (by kernel_rfl) (works11_ok _) ?_
    rintro v4 G4 rows4 hG4 ⟨rfl, rfl⟩
    replace hb := hb.mono hG4.le
    replace hr1 := hr1.mono hG4.le
    refine X.run 5 [2] [] (.ex .ret) [] ⟨33, [(2, .v (.bool true))], []⟩ (by kernel_rfl) ?_
    refine doneG (.inl rfl) [.bool true] [] (by kernel_rfl) rfl rfl (((hG2.trans hG3).trans hG4)) ?_
    -- end 1 (0)
    exact ⟨rfl, rfl⟩
  · -- case 1
    obtain rfl := eb2 hc2
    refine X.run 11 [2, 3, 4, 18] [3] (.ops (aA B6 [1, 1, 1, 0]) (oA B6 [1, 1, 1, 0] 1 :: lA B6 [1, 1, 1, 0] 2)) [.seq (cA B6 [1, 1, 1, 1])] ⟨33, [(2, .v (.bool false)), (3, .own 3 0), (4, .v (.int .i64 5)), (18, .v (.slice A1 ys1.length (c - 0)))], [(3, ⟨31, [.v (.int .u16 0), .v (.int .u16 0), .v (.int .u32 0), .v (.int .u32 0), .v (.int .u8 0), .v (.int .u8 0), .v (.int .u8 0), .v (.int .u16 0), .v (.int .u16 0), .v (.int .u16 0)]⟩)]⟩ (by kernel_rfl) ?_
    refine X.callG (f := 39) (l := [.v (.slice A1 ys1.length (c - 0))]) [.slice A1 ys1.length (c - 0)] 0 (by kernel_rfl) (by kernel_rfl) (by kernel_rfl) (RefDec_ok _ _ ys1 _ hr1 hc1 hm1) ?_
    rintro v5 G5 rows5 hG5 ⟨ea5, eb5, ec5, rfl⟩
    replace hb := hb.mono hG5.le
    replace hr1 := hr1.mono hG5.le
    obtain rfl := eb5 ⟨hc2.1, (decBad hby2 hc2.1).mp hc2.2⟩
    refine X.run 12 [2, 4, 6, 22, 23] [] (.ops (aA B6 [1, 1, 1, 1, 0]) (oA B6 [1, 1, 1, 1, 0] 2 :: lA B6 [1, 1, 1, 1, 0] 3)) [.seq (cA B6 [1, 1, 1, 1, 1])] ⟨33, [(2, .v (.bool false)), (4, .v (.int .i64 5)), (6, .v (.int .i64 5)), (22, .v (.agg #[.int .u16 0, .int .u16 0, .int .u32 0, .int .u32 0, .int .u8 0, .int .u8 0, .int .u8 0, .int .u16 0, .int .u16 0, .int .u16 0])), (23, .v (.agg #[.int .u16 0, .int .u16 0, .int .u32 0, .int .u32 0, .int .u8 0, .int .u8 0, .int .u8 0, .int .u16 0, .int .u16 0, .int .u16 0]))], []⟩ (by kernel_rfl) ?_
    refine X.eqAgg (t := 31) (t' := 31) (x := .tmp 22) (y := .tmp 23) (xs := #[.int .u16 0, .int .u16 0, .int .u32 0, .int .u32 0, .int .u8 0, .int .u8 0, .int .u8 0, .int .u16 0, .int .u16 0, .int .u16 0]) (ys := #[.int .u16 0, .int .u16 0, .int .u32 0, .int .u32 0, .int .u8 0, .int .u8 0, .int .u8 0, .int .u16 0, .int .u16 0, .int .u16 0]) (fs := fsOf 31) (b := (((0 : Int) == 0) && (((0 : Int) == 0) && (((0 : Int) == 0) && (((0 : Int) == 0) && (((0 : Int) == 0) && (((0 : Int) == 0) && (((0 : Int) == 0) && (((0 : Int) == 0) && (((0 : Int) == 0) && (((0 : Int) == 0) && true))))))))))) (by kernel_rfl) (by kernel_rfl) (by kernel_rfl) (by kernel_rfl) (by kernel_rfl) (by kernel_rfl) (by kernel_rfl) (by kernel_rfl) ?_
    refine X.known 24 (y := .v (.bool true)) rfl (congrArg (fun z_ => AV.v (.bool z_)) (by simp)) ?_
    refine X.run 6 [2, 30] [] (.ops (aA B6 [1, 1, 1, 1, 0]) (oA B6 [1, 1, 1, 1, 0] 9 :: lA B6 [1, 1, 1, 1, 0] 10)) [.seq (cA B6 [1, 1, 1, 1, 1])] ⟨33, [(2, .v (.bool false)), (30, .v (.bool true))], []⟩ (by kernel_rfl) ?_
    refine X.callG (f := 34) (l := []) [] 0 (by kernel_rfl) (by kernel_rfl) (by kernel_rfl) (works11_ok _) ?_
    rintro v6 G6 rows6 hG6 ⟨rfl, rfl⟩
    replace hb := hb.mono hG6.le
    replace hr1 := hr1.mono hG6.le
    refine X.run 5 [2] [] (.ex .ret) [] ⟨33, [(2, .v (.bool true))], []⟩ (by kernel_rfl) ?_
    refine doneG (.inl rfl) [.bool true] [] (by kernel_rfl) rfl rfl (((hG2.trans hG5).trans hG6)) ?_
    -- end 2 (1)
    exact ⟨rfl, rfl⟩
  · -- case 2
    obtain rfl := ec2 hc2
    refine X.run 11 [2, 3, 4, 18] [3] (.ops (aA B6 [1, 1, 1, 0]) (oA B6 [1, 1, 1, 0] 1 :: lA B6 [1, 1, 1, 0] 2)) [.seq (cA B6 [1, 1, 1, 1])] ⟨33, [(2, .v (.bool false)), (3, .own 3 0), (4, .v (.int .i64 0)), (18, .v (.slice A1 ys1.length (c - 0)))], [(3, ⟨31, [.v (.int .u16 (bor .u16 (bshl .u16 (IntKind.u16.wrap (ys1.getD 0 0)) 8) (IntKind.u16.wrap (ys1.getD 1 0)))), .v (.int .u16 (bor .u16 (bshl .u16 (IntKind.u16.wrap (ys1.getD 2 0)) 8) (IntKind.u16.wrap (ys1.getD 3 0)))), .v (.int .u32 (bor .u32 (bshl .u32 (IntKind.u32.wrap (bor .u16 (bshl .u16 (IntKind.u16.wrap (ys1.getD 4 0)) 8) (IntKind.u16.wrap (ys1.getD 5 0)))) 16) (IntKind.u32.wrap (bor .u16 (bshl .u16 (IntKind.u16.wrap (ys1.getD 6 0)) 8) (IntKind.u16.wrap (ys1.getD 7 0)))))), .v (.int .u32 (bor .u32 (bshl .u32 (IntKind.u32.wrap (bor .u16 (bshl .u16 (IntKind.u16.wrap (ys1.getD 8 0)) 8) (IntKind.u16.wrap (ys1.getD 9 0)))) 16) (IntKind.u32.wrap (bor .u16 (bshl .u16 (IntKind.u16.wrap (ys1.getD 10 0)) 8) (IntKind.u16.wrap (ys1.getD 11 0)))))), .v (.int .u8 (bshr .u8 (ys1.getD 12 0) 4)), .v (.int .u8 (bor .u8 (bshl .u8 (band .u8 (ys1.getD 12 0) 1) 2) (bshr .u8 (ys1.getD 13 0) 6))), .v (.int .u8 (band .u8 (ys1.getD 13 0) 63)), .v (.int .u16 (bor .u16 (bshl .u16 (IntKind.u16.wrap (ys1.getD 14 0)) 8) (IntKind.u16.wrap (ys1.getD 15 0)))), .v (.int .u16 (bor .u16 (bshl .u16 (IntKind.u16.wrap (ys1.getD 16 0)) 8) (IntKind.u16.wrap (ys1.getD 17 0)))), .v (.int .u16 (bor .u16 (bshl .u16 (IntKind.u16.wrap (ys1.getD 18 0)) 8) (IntKind.u16.wrap (ys1.getD 19 0))))]⟩)]⟩ (by kernel_rfl) ?_
    refine X.callG (f := 39) (l := [.v (.slice A1 ys1.length (c - 0))]) [.slice A1 ys1.length (c - 0)] 0 (by kernel_rfl) (by kernel_rfl) (by kernel_rfl) (RefDec_ok _ _ ys1 _ hr1 hc1 hm1) ?_
    rintro v7 G7 rows7 hG7 ⟨ea7, eb7, ec7, rfl⟩
    replace hb := hb.mono hG7.le
    replace hr1 := hr1.mono hG7.le
    obtain rfl := ec7 ⟨hc2.1, fun h_ => hc2.2 ((decBad hby2 hc2.1).mpr h_)⟩
    refine X.run 12 [2, 4, 6, 22, 23] [] (.ops (aA B6 [1, 1, 1, 1, 0]) (oA B6 [1, 1, 1, 1, 0] 2 :: lA B6 [1, 1, 1, 1, 0] 3)) [.seq (cA B6 [1, 1, 1, 1, 1])] ⟨33, [(2, .v (.bool false)), (4, .v (.int .i64 0)), (6, .v (.int .i64 0)), (22, .v (.agg #[.int .u16 (bor .u16 (bshl .u16 (IntKind.u16.wrap (ys1.getD 0 0)) 8) (IntKind.u16.wrap (ys1.getD 1 0))), .int .u16 (bor .u16 (bshl .u16 (IntKind.u16.wrap (ys1.getD 2 0)) 8) (IntKind.u16.wrap (ys1.getD 3 0))), .int .u32 (bor .u32 (bshl .u32 (IntKind.u32.wrap (bor .u16 (bshl .u16 (IntKind.u16.wrap (ys1.getD 4 0)) 8) (IntKind.u16.wrap (ys1.getD 5 0)))) 16) (IntKind.u32.wrap (bor .u16 (bshl .u16 (IntKind.u16.wrap (ys1.getD 6 0)) 8) (IntKind.u16.wrap (ys1.getD 7 0))))), .int .u32 (bor .u32 (bshl .u32 (IntKind.u32.wrap (bor .u16 (bshl .u16 (IntKind.u16.wrap (ys1.getD 8 0)) 8) (IntKind.u16.wrap (ys1.getD 9 0)))) 16) (IntKind.u32.wrap (bor .u16 (bshl .u16 (IntKind.u16.wrap (ys1.getD 10 0)) 8) (IntKind.u16.wrap (ys1.getD 11 0))))), .int .u8 (bshr .u8 (ys1.getD 12 0) 4), .int .u8 (bor .u8 (bshl .u8 (band .u8 (ys1.getD 12 0) 1) 2) (bshr .u8 (ys1.getD 13 0) 6)), .int .u8 (band .u8 (ys1.getD 13 0) 63), .int .u16 (bor .u16 (bshl .u16 (IntKind.u16.wrap (ys1.getD 14 0)) 8) (IntKind.u16.wrap (ys1.getD 15 0))), .int .u16 (bor .u16 (bshl .u16 (IntKind.u16.wrap (ys1.getD 16 0)) 8) (IntKind.u16.wrap (ys1.getD 17 0))), .int .u16 (bor .u16 (bshl .u16 (IntKind.u16.wrap (ys1.getD 18 0)) 8) (IntKind.u16.wrap (ys1.getD 19 0)))])), (23, .v (.agg #[.int .u16 (IntKind.u16.wrap (numB ((ys1.take 2).drop 0))), .int .u16 (IntKind.u16.wrap (numB ((ys1.take 4).drop 2))), .int .u32 (numB ((ys1.take 8).drop 4)), .int .u32 (numB ((ys1.take 12).drop 8)), .int .u8 (IntKind.u8.wrap (Int.tdiv (ys1.getD 12 0) 16)), .int .u8 (IntKind.u8.wrap ((IntKind.u8.wrap ((Int.tmod (ys1.getD 12 0) 2) * 4)) + (IntKind.u8.wrap (Int.tdiv (ys1.getD 13 0) 64)))), .int .u8 (Int.tmod (ys1.getD 13 0) 64), .int .u16 (IntKind.u16.wrap (numB ((ys1.take 16).drop 14))), .int .u16 (IntKind.u16.wrap (numB ((ys1.take 18).drop 16))), .int .u16 (IntKind.u16.wrap (numB ((ys1.take 20).drop 18)))]))], []⟩ (by kernel_rfl) ?_
    refine X.known 23 (y := .v (.agg #[.int .u16 (bor .u16 (bshl .u16 (IntKind.u16.wrap (ys1.getD 0 0)) 8) (IntKind.u16.wrap (ys1.getD 1 0))), .int .u16 (bor .u16 (bshl .u16 (IntKind.u16.wrap (ys1.getD 2 0)) 8) (IntKind.u16.wrap (ys1.getD 3 0))), .int .u32 (bor .u32 (bshl .u32 (IntKind.u32.wrap (bor .u16 (bshl .u16 (IntKind.u16.wrap (ys1.getD 4 0)) 8) (IntKind.u16.wrap (ys1.getD 5 0)))) 16) (IntKind.u32.wrap (bor .u16 (bshl .u16 (IntKind.u16.wrap (ys1.getD 6 0)) 8) (IntKind.u16.wrap (ys1.getD 7 0))))), .int .u32 (bor .u32 (bshl .u32 (IntKind.u32.wrap (bor .u16 (bshl .u16 (IntKind.u16.wrap (ys1.getD 8 0)) 8) (IntKind.u16.wrap (ys1.getD 9 0)))) 16) (IntKind.u32.wrap (bor .u16 (bshl .u16 (IntKind.u16.wrap (ys1.getD 10 0)) 8) (IntKind.u16.wrap (ys1.getD 11 0))))), .int .u8 (bshr .u8 (ys1.getD 12 0) 4), .int .u8 (bor .u8 (bshl .u8 (band .u8 (ys1.getD 12 0) 1) 2) (bshr .u8 (ys1.getD 13 0) 6)), .int .u8 (band .u8 (ys1.getD 13 0) 63), .int .u16 (bor .u16 (bshl .u16 (IntKind.u16.wrap (ys1.getD 14 0)) 8) (IntKind.u16.wrap (ys1.getD 15 0))), .int .u16 (bor .u16 (bshl .u16 (IntKind.u16.wrap (ys1.getD 16 0)) 8) (IntKind.u16.wrap (ys1.getD 17 0))), .int .u16 (bor .u16 (bshl .u16 (IntKind.u16.wrap (ys1.getD 18 0)) 8) (IntKind.u16.wrap (ys1.getD 19 0)))])) rfl (congrArg AV.v (decEq hby2 hc2.1).symm) ?_
    refine X.eqAgg (t := 31) (t' := 31) (x := .tmp 22) (y := .tmp 23) (xs := #[.int .u16 (bor .u16 (bshl .u16 (IntKind.u16.wrap (ys1.getD 0 0)) 8) (IntKind.u16.wrap (ys1.getD 1 0))), .int .u16 (bor .u16 (bshl .u16 (IntKind.u16.wrap (ys1.getD 2 0)) 8) (IntKind.u16.wrap (ys1.getD 3 0))), .int .u32 (bor .u32 (bshl .u32 (IntKind.u32.wrap (bor .u16 (bshl .u16 (IntKind.u16.wrap (ys1.getD 4 0)) 8) (IntKind.u16.wrap (ys1.getD 5 0)))) 16) (IntKind.u32.wrap (bor .u16 (bshl .u16 (IntKind.u16.wrap (ys1.getD 6 0)) 8) (IntKind.u16.wrap (ys1.getD 7 0))))), .int .u32 (bor .u32 (bshl .u32 (IntKind.u32.wrap (bor .u16 (bshl .u16 (IntKind.u16.wrap (ys1.getD 8 0)) 8) (IntKind.u16.wrap (ys1.getD 9 0)))) 16) (IntKind.u32.wrap (bor .u16 (bshl .u16 (IntKind.u16.wrap (ys1.getD 10 0)) 8) (IntKind.u16.wrap (ys1.getD 11 0))))), .int .u8 (bshr .u8 (ys1.getD 12 0) 4), .int .u8 (bor .u8 (bshl .u8 (band .u8 (ys1.getD 12 0) 1) 2) (bshr .u8 (ys1.getD 13 0) 6)), .int .u8 (band .u8 (ys1.getD 13 0) 63), .int .u16 (bor .u16 (bshl .u16 (IntKind.u16.wrap (ys1.getD 14 0)) 8) (IntKind.u16.wrap (ys1.getD 15 0))), .int .u16 (bor .u16 (bshl .u16 (IntKind.u16.wrap (ys1.getD 16 0)) 8) (IntKind.u16.wrap (ys1.getD 17 0))), .int .u16 (bor .u16 (bshl .u16 (IntKind.u16.wrap (ys1.getD 18 0)) 8) (IntKind.u16.wrap (ys1.getD 19 0)))]) (ys := #[.int .u16 (bor .u16 (bshl .u16 (IntKind.u16.wrap (ys1.getD 0 0)) 8) (IntKind.u16.wrap (ys1.getD 1 0))), .int .u16 (bor .u16 (bshl .u16 (IntKind.u16.wrap (ys1.getD 2 0)) 8) (IntKind.u16.wrap (ys1.getD 3 0))), .int .u32 (bor .u32 (bshl .u32 (IntKind.u32.wrap (bor .u16 (bshl .u16 (IntKind.u16.wrap (ys1.getD 4 0)) 8) (IntKind.u16.wrap (ys1.getD 5 0)))) 16) (IntKind.u32.wrap (bor .u16 (bshl .u16 (IntKind.u16.wrap (ys1.getD 6 0)) 8) (IntKind.u16.wrap (ys1.getD 7 0))))), .int .u32 (bor .u32 (bshl .u32 (IntKind.u32.wrap (bor .u16 (bshl .u16 (IntKind.u16.wrap (ys1.getD 8 0)) 8) (IntKind.u16.wrap (ys1.getD 9 0)))) 16) (IntKind.u32.wrap (bor .u16 (bshl .u16 (IntKind.u16.wrap (ys1.getD 10 0)) 8) (IntKind.u16.wrap (ys1.getD 11 0))))), .int .u8 (bshr .u8 (ys1.getD 12 0) 4), .int .u8 (bor .u8 (bshl .u8 (band .u8 (ys1.getD 12 0) 1) 2) (bshr .u8 (ys1.getD 13 0) 6)), .int .u8 (band .u8 (ys1.getD 13 0) 63), .int .u16 (bor .u16 (bshl .u16 (IntKind.u16.wrap (ys1.getD 14 0)) 8) (IntKind.u16.wrap (ys1.getD 15 0))), .int .u16 (bor .u16 (bshl .u16 (IntKind.u16.wrap (ys1.getD 16 0)) 8) (IntKind.u16.wrap (ys1.getD 17 0))), .int .u16 (bor .u16 (bshl .u16 (IntKind.u16.wrap (ys1.getD 18 0)) 8) (IntKind.u16.wrap (ys1.getD 19 0)))]) (fs := fsOf 31) (b := (((bor .u16 (bshl .u16 (IntKind.u16.wrap (ys1.getD 0 0)) 8) (IntKind.u16.wrap (ys1.getD 1 0))) == (bor .u16 (bshl .u16 (IntKind.u16.wrap (ys1.getD 0 0)) 8) (IntKind.u16.wrap (ys1.getD 1 0)))) && (((bor .u16 (bshl .u16 (IntKind.u16.wrap (ys1.getD 2 0)) 8) (IntKind.u16.wrap (ys1.getD 3 0))) == (bor .u16 (bshl .u16 (IntKind.u16.wrap (ys1.getD 2 0)) 8) (IntKind.u16.wrap (ys1.getD 3 0)))) && (((bor .u32 (bshl .u32 (IntKind.u32.wrap (bor .u16 (bshl .u16 (IntKind.u16.wrap (ys1.getD 4 0)) 8) (IntKind.u16.wrap (ys1.getD 5 0)))) 16) (IntKind.u32.wrap (bor .u16 (bshl .u16 (IntKind.u16.wrap (ys1.getD 6 0)) 8) (IntKind.u16.wrap (ys1.getD 7 0))))) == (bor .u32 (bshl .u32 (IntKind.u32.wrap (bor .u16 (bshl .u16 (IntKind.u16.wrap (ys1.getD 4 0)) 8) (IntKind.u16.wrap (ys1.getD 5 0)))) 16) (IntKind.u32.wrap (bor .u16 (bshl .u16 (IntKind.u16.wrap (ys1.getD 6 0)) 8) (IntKind.u16.wrap (ys1.getD 7 0)))))) && (((bor .u32 (bshl .u32 (IntKind.u32.wrap (bor .u16 (bshl .u16 (IntKind.u16.wrap (ys1.getD 8 0)) 8) (IntKind.u16.wrap (ys1.getD 9 0)))) 16) (IntKind.u32.wrap (bor .u16 (bshl .u16 (IntKind.u16.wrap (ys1.getD 10 0)) 8) (IntKind.u16.wrap (ys1.getD 11 0))))) == (bor .u32 (bshl .u32 (IntKind.u32.wrap (bor .u16 (bshl .u16 (IntKind.u16.wrap (ys1.getD 8 0)) 8) (IntKind.u16.wrap (ys1.getD 9 0)))) 16) (IntKind.u32.wrap (bor .u16 (bshl .u16 (IntKind.u16.wrap (ys1.getD 10 0)) 8) (IntKind.u16.wrap (ys1.getD 11 0)))))) && (((bshr .u8 (ys1.getD 12 0) 4) == (bshr .u8 (ys1.getD 12 0) 4)) && (((bor .u8 (bshl .u8 (band .u8 (ys1.getD 12 0) 1) 2) (bshr .u8 (ys1.getD 13 0) 6)) == (bor .u8 (bshl .u8 (band .u8 (ys1.getD 12 0) 1) 2) (bshr .u8 (ys1.getD 13 0) 6))) && (((band .u8 (ys1.getD 13 0) 63) == (band .u8 (ys1.getD 13 0) 63)) && (((bor .u16 (bshl .u16 (IntKind.u16.wrap (ys1.getD 14 0)) 8) (IntKind.u16.wrap (ys1.getD 15 0))) == (bor .u16 (bshl .u16 (IntKind.u16.wrap (ys1.getD 14 0)) 8) (IntKind.u16.wrap (ys1.getD 15 0)))) && (((bor .u16 (bshl .u16 (IntKind.u16.wrap (ys1.getD 16 0)) 8) (IntKind.u16.wrap (ys1.getD 17 0))) == (bor .u16 (bshl .u16 (IntKind.u16.wrap (ys1.getD 16 0)) 8) (IntKind.u16.wrap (ys1.getD 17 0)))) && (((bor .u16 (bshl .u16 (IntKind.u16.wrap (ys1.getD 18 0)) 8) (IntKind.u16.wrap (ys1.getD 19 0))) == (bor .u16 (bshl .u16 (IntKind.u16.wrap (ys1.getD 18 0)) 8) (IntKind.u16.wrap (ys1.getD 19 0)))) && true))))))))))) (by kernel_rfl) (by kernel_rfl) (by kernel_rfl) (by kernel_rfl) (by kernel_rfl) (by kernel_rfl) (by kernel_rfl) (by kernel_rfl) ?_
    refine X.known 24 (y := .v (.bool true)) rfl (congrArg (fun z_ => AV.v (.bool z_)) (by simp)) ?_
    refine X.run 6 [2, 30] [] (.ops (aA B6 [1, 1, 1, 1, 0]) (oA B6 [1, 1, 1, 1, 0] 9 :: lA B6 [1, 1, 1, 1, 0] 10)) [.seq (cA B6 [1, 1, 1, 1, 1])] ⟨33, [(2, .v (.bool false)), (30, .v (.bool true))], []⟩ (by kernel_rfl) ?_
    refine X.callG (f := 34) (l := []) [] 0 (by kernel_rfl) (by kernel_rfl) (by kernel_rfl) (works11_ok _) ?_
    rintro v8 G8 rows8 hG8 ⟨rfl, rfl⟩
    replace hb := hb.mono hG8.le
    replace hr1 := hr1.mono hG8.le
    refine X.run 5 [2] [] (.ex .ret) [] ⟨33, [(2, .v (.bool true))], []⟩ (by kernel_rfl) ?_
    refine doneG (.inl rfl) [.bool true] [] (by kernel_rfl) rfl rfl (((hG2.trans hG7).trans hG8)) ?_
    -- end 3 (2)
    exact ⟨rfl, rfl⟩
end Go.Proofs.YtjgpdbkkpomhjaaX
