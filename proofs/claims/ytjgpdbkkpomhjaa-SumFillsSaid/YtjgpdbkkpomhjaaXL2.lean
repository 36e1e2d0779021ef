/- The law SumParts, walked. -/
import Derived.Test.YtjgpdbkkpomhjaaProg
import Derived.KernelRfl
import Derived.Test.YtjgpdbkkpomhjaaXS4
namespace Go.Proofs.YtjgpdbkkpomhjaaX
open Go.RowKit
set_option linter.unusedVariables false
set_option linter.unusedSimpArgs false
set_option maxRecDepth 100000
/-- leat/leatlaw10.SumParts -/
noncomputable def B8 : Code := bodyOf Try.f8
set_option maxHeartbeats 4000000 in
theorem SumParts_ok (A : Option Addr) (c : Nat) (b : List Int) (k q : Int) (G : Mem) (hb : rowAt (D.int .u8) G A b) (hle : b.length ≤ c) (hmx : c ≤ maxLen) (hk : 0 ≤ k ∧ k ≤ 255) (hq : 0 ≤ q ∧ q ≤ 255) : CallsG Try.prog 8 [.slice A b.length c, .int .u8 k, .int .u8 q] G (fun _ v rows => v = .bool true ∧ rows = []) := by
  refine CallsG.enter Try.func8 rfl rfl ?_
  intro w
  refine X.run 11 [0, 1, 2, 6, 11, 14] [] (.ops (aA B8 [1, 0]) (oA B8 [1, 0] 4 :: lA B8 [1, 0] 5)) [.seq (cA B8 [1, 1])] ⟨79, [(0, .v (.slice A b.length c)), (1, .v (.int .u8 k)), (2, .v (.int .u8 q)), (6, .v (.bool false)), (11, .v (.slice A b.length c)), (14, .v (.int .i64 (imin ((b.length : Nat) : Int) 300)))], []⟩ (by kernel_rfl) ?_
  refine X.known 14 (y := .v (.int .i64 (min ((b.length : Nat) : Int) 300))) rfl (congrArg (fun z_ => AV.v (.int .i64 z_)) (by simp only [imin_eq, imax_eq])) ?_
  have hlo1 : 0 ≤ (min ((b.length : Nat) : Int) 300).toNat := by omega
  have hhi1 : (min ((b.length : Nat) : Int) 300).toNat ≤ b.length := by omega
  refine X.cut (t := 22) (e := 5) (sz := 1) (n := b.length) (c := c) (A := A) (x := .tmp 11) (l := none) (h := (some (.tmp 14))) (lv := none) (hv := (some (.int .i64 (min ((b.length : Nat) : Int) 300)))) 0 ((min ((b.length : Nat) : Int) 300).toNat) (by kernel_rfl) (by kernel_rfl) (by kernel_rfl) (by kernel_rfl) (by kernel_rfl) (by kernel_rfl) (by kernel_rfl) (rfl) (⟨_, _, rfl, by omega, rfl⟩) hlo1 (Nat.le_trans hhi1 hle) ?_
  obtain ⟨A1, hA1⟩ : ∃ A_, cutA A c 0 1 = A_ := ⟨_, rfl⟩
  obtain ⟨ys1, hys1⟩ : ∃ l_, (b.take ((min ((b.length : Nat) : Int) 300).toNat)).drop 0 = l_ := ⟨_, rfl⟩
  have hr1 : rowAt (D.int .u8) G (cutA A c 0 1) ((b.take ((min ((b.length : Nat) : Int) 300).toNat)).drop 0) := rowAt_cut hb hlo1 hhi1 hle
  have hl1 : ((min ((b.length : Nat) : Int) 300).toNat) - 0 = ys1.length := by rw [← hys1, List.length_drop, List.length_take]; omega
  have hc1 : ys1.length ≤ c - 0 := by omega
  have hm1 : c - 0 ≤ maxLen := Nat.le_trans (Nat.sub_le _ _) hmx
  rw [hys1, show cutA A c 0 _ = A1 from hA1] at hr1
  rw [hA1, hl1]
  refine X.run 7 [0, 2, 6, 17] [] (.ops (aA B8 [1, 1, 0]) (oA B8 [1, 1, 0] 2 :: lA B8 [1, 1, 0] 3)) [.seq (cA B8 [1, 1, 1])] ⟨79, [(0, .v (.slice A1 ys1.length (c - 0))), (2, .v (.int .u8 q)), (6, .v (.bool false)), (17, .v (.int .i64 (IntKind.i64.wrap k)))], []⟩ (by kernel_rfl) ?_
  refine X.known 17 (y := .v (.int .i64 k)) rfl (congrArg (fun z_ => AV.v (.int .i64 z_)) (wi64 (by omega) (by omega))) ?_
  refine X.run 3 [0, 2, 6, 20] [] (.ops (aA B8 [1, 1, 0]) (oA B8 [1, 1, 0] 5 :: lA B8 [1, 1, 0] 6)) [.seq (cA B8 [1, 1, 1])] ⟨79, [(0, .v (.slice A1 ys1.length (c - 0))), (2, .v (.int .u8 q)), (6, .v (.bool false)), (20, .v (.int .i64 (imin k ((ys1.length : Nat) : Int))))], []⟩ (by kernel_rfl) ?_
  refine X.known 20 (y := .v (.int .i64 (min k ((ys1.length : Nat) : Int)))) rfl (congrArg (fun z_ => AV.v (.int .i64 z_)) (by simp only [imin_eq, imax_eq])) ?_
  refine X.run 5 [0, 2, 6, 7] [] (.code (cA B8 [1, 1, 1, 0, 0])) [.seq (cA B8 [1, 1, 1, 0, 1]), .seq (cA B8 [1, 1, 1, 1])] ⟨79, [(0, .v (.slice A1 ys1.length (c - 0))), (2, .v (.int .u8 q)), (6, .v (.bool false)), (7, .v (.int .i64 (min k ((ys1.length : Nat) : Int))))], []⟩ (by kernel_rfl) ?_
  have hb_d2 := hb
  have hr1_d2 := hr1
  refine XD.open (id := 3) (arr := aA B8 [1, 1, 1, 0, 0]) 12 [] [] [] (by kernel_rfl) (by kernel_rfl) (by kernel_rfl) (by kernel_rfl) (by kernel_rfl) trivial (by simp) rfl (fun ρ0 => ?_)
  refine XD.take (i := 0) (l' := (lb 12 1)) (oA B8 [1, 1, 1, 0, 0] 0) (.v (.slice A1 ys1.length (c - 0))) QOk.ctxG (by kernel_rfl) (by kernel_rfl) (by kernel_rfl) (by kernel_rfl) (by kernel_rfl) ?_
  refine XD.take (i := 1) (l' := (lb 12 3)) (oA B8 [1, 1, 1, 0, 0] 1) (.v (.int .i64 (min k ((ys1.length : Nat) : Int)))) QOk.ctxG (by kernel_rfl) (by kernel_rfl) (by kernel_rfl) (by kernel_rfl) (by kernel_rfl) ?_
  have hlo3 : 0 ≤ (min k ((ys1.length : Nat) : Int)).toNat := by omega
  have hhi3 : (min k ((ys1.length : Nat) : Int)).toNat ≤ ys1.length := by omega
  refine XD.cut (i := 2) (l' := (lb 12 7)) (o := (oA B8 [1, 1, 1, 0, 0] 2)) (t := 22) (e := 5) (sz := 1) (n := ys1.length) (c := c - 0) (A := A1) (x := .tmp 21) (l0 := none) (h := (some (.tmp 22))) (lv := none) (hv := (some (.int .i64 (min k ((ys1.length : Nat) : Int))))) 0 ((min k ((ys1.length : Nat) : Int)).toNat) QOk.ctxG (by kernel_rfl) (by kernel_rfl) (by kernel_rfl) (by kernel_rfl) (by kernel_rfl) (by kernel_rfl) (by kernel_rfl) (by kernel_rfl) (by kernel_rfl) (rfl) (⟨_, _, rfl, by omega, rfl⟩) hlo3 (Nat.le_trans hhi3 hc1) (by kernel_rfl) ?_
  obtain ⟨A3, hA3⟩ : ∃ A_, cutA A1 (c - 0) 0 1 = A_ := ⟨_, rfl⟩
  obtain ⟨ys3, hys3⟩ : ∃ l_, (ys1.take ((min k ((ys1.length : Nat) : Int)).toNat)).drop 0 = l_ := ⟨_, rfl⟩
  have hr3 : rowAt (D.int .u8) G (cutA A1 (c - 0) 0 1) ((ys1.take ((min k ((ys1.length : Nat) : Int)).toNat)).drop 0) := rowAt_cut hr1 hlo3 hhi3 hc1
  have hl3 : ((min k ((ys1.length : Nat) : Int)).toNat) - 0 = ys3.length := by rw [← hys3, List.length_drop, List.length_take]; omega
  have hc3 : ys3.length ≤ (c - 0) - 0 := by omega
  have hm3 : (c - 0) - 0 ≤ maxLen := Nat.le_trans (Nat.sub_le _ _) hm1
  rw [hys3, show cutA A1 (c - 0) 0 _ = A3 from hA3] at hr3
  rw [hA3, hl3]
  refine XD.take (i := 3) (l' := (lb 12 15)) (oA B8 [1, 1, 1, 0, 0] 3) (.v (.slice A1 ys1.length (c - 0))) QOk.ctxG (by kernel_rfl) (by kernel_rfl) (by kernel_rfl) (by kernel_rfl) (by kernel_rfl) ?_
  refine XD.take (i := 4) (l' := (lb 12 31)) (oA B8 [1, 1, 1, 0, 0] 4) (.v (.int .i64 (min k ((ys1.length : Nat) : Int)))) QOk.ctxG (by kernel_rfl) (by kernel_rfl) (by kernel_rfl) (by kernel_rfl) (by kernel_rfl) ?_
  have hlo4 : (min k ((ys1.length : Nat) : Int)).toNat ≤ ys1.length := by omega
  have hhi4 : ys1.length ≤ ys1.length := by omega
  refine XD.cut (i := 5) (l' := (lb 12 63)) (o := (oA B8 [1, 1, 1, 0, 0] 5)) (t := 22) (e := 5) (sz := 1) (n := ys1.length) (c := c - 0) (A := A1) (x := .tmp 24) (l0 := (some (.tmp 25))) (h := none) (lv := (some (.int .i64 (min k ((ys1.length : Nat) : Int))))) (hv := none) ((min k ((ys1.length : Nat) : Int)).toNat) ys1.length QOk.ctxG (by kernel_rfl) (by kernel_rfl) (by kernel_rfl) (by kernel_rfl) (by kernel_rfl) (by kernel_rfl) (by kernel_rfl) (by kernel_rfl) (by kernel_rfl) (⟨_, _, rfl, by omega, rfl⟩) (rfl) hlo4 (Nat.le_trans hhi4 hc1) (by kernel_rfl) ?_
  obtain ⟨A4, hA4⟩ : ∃ A_, cutA A1 (c - 0) ((min k ((ys1.length : Nat) : Int)).toNat) 1 = A_ := ⟨_, rfl⟩
  obtain ⟨ys4, hys4⟩ : ∃ l_, (ys1.take ys1.length).drop ((min k ((ys1.length : Nat) : Int)).toNat) = l_ := ⟨_, rfl⟩
  have hr4 : rowAt (D.int .u8) G (cutA A1 (c - 0) ((min k ((ys1.length : Nat) : Int)).toNat) 1) ((ys1.take ys1.length).drop ((min k ((ys1.length : Nat) : Int)).toNat)) := rowAt_cut hr1 hlo4 hhi4 hc1
  have hl4 : ys1.length - ((min k ((ys1.length : Nat) : Int)).toNat) = ys4.length := by rw [← hys4, List.length_drop, List.length_take]; omega
  have hc4 : ys4.length ≤ (c - 0) - ((min k ((ys1.length : Nat) : Int)).toNat) := by omega
  have hm4 : (c - 0) - ((min k ((ys1.length : Nat) : Int)).toNat) ≤ maxLen := Nat.le_trans (Nat.sub_le _ _) hm1
  rw [hys4, show cutA A1 (c - 0) ((min k ((ys1.length : Nat) : Int)).toNat) _ = A4 from hA4] at hr4
  rw [hA4, hl4]
  refine XD.take (i := 8) (l' := (lb 12 319)) (oA B8 [1, 1, 1, 0, 0] 8) (.v (.slice A1 ys1.length (c - 0))) QOk.ctxG (by kernel_rfl) (by kernel_rfl) (by kernel_rfl) (by kernel_rfl) (by kernel_rfl) ?_
  refine XD.norm [0, 2, 6, 7, 23, 26, 29] [] ⟨79, [(0, .v (.slice A1 ys1.length (c - 0))), (2, .v (.int .u8 q)), (6, .v (.bool false)), (7, .v (.int .i64 (min k ((ys1.length : Nat) : Int)))), (23, .v (.slice A3 ys3.length ((c - 0) - 0))), (26, .v (.slice A4 ys4.length ((c - 0) - ((min k ((ys1.length : Nat) : Int)).toNat)))), (29, .v (.slice A1 ys1.length (c - 0)))], []⟩ (by kernel_rfl) trivial ?_
  refine XD.two (i := 6) (j := 9) (li := (lb 12 383)) (lj := (lb 12 831)) (oA B8 [1, 1, 1, 0, 0] 6) (oA B8 [1, 1, 1, 0, 0] 9) (by kernel_rfl) (by kernel_rfl) (by kernel_rfl) (by kernel_rfl) (by kernel_rfl) ?_ ?_
  · -- 6 first
    refine X.lit 27 22 1 3 [.slice A3 ys3.length ((c - 0) - 0), .slice none 0 0, .slice A4 ys4.length ((c - 0) - ((min k ((ys1.length : Nat) : Int)).toNat))] (by kernel_rfl) (fun g => by kernel_rfl) ?_
    intro A5
    refine X.back ⟨trivial, Le.refl _, rfl, ?_⟩
    refine XD.norm [0, 2, 6, 7, 27, 29] [] ⟨79, [(0, .v (.slice A1 ys1.length (c - 0))), (2, .v (.int .u8 q)), (6, .v (.bool false)), (7, .v (.int .i64 (min k ((ys1.length : Nat) : Int)))), (27, .v (.slice A5 3 3)), (29, .v (.slice A1 ys1.length (c - 0)))], []⟩ (by kernel_rfl) trivial ?_
    refine XD.two (i := 7) (j := 9) (li := (lb 12 511)) (lj := (lb 12 895)) (oA B8 [1, 1, 1, 0, 0] 7) (oA B8 [1, 1, 1, 0, 0] 9) (by kernel_rfl) (by kernel_rfl) (by kernel_rfl) (by kernel_rfl) (by kernel_rfl) ?_ ?_
    · -- 7 first
      have hB6 : ∀ p_ ∈ ([ys3, [], ys4] : List (List Int)), isBytes p_ := by intro p_ hp_; simp only [List.mem_cons, List.not_mem_nil, or_false] at hp_; rcases hp_ with rfl | rfl | rfl; all_goals first | exact (fun _ h_ => absurd h_ (List.not_mem_nil)) | exact row_bytes hr3 | exact row_bytes hr4
      have hL6 : ([ys3, [], ys4] : List (List Int)).flatten.length ≤ 600 := by simp only [List.flatten_cons, List.flatten_nil, List.length_append, List.length_nil]; omega
      refine X.callV (f := 28) (l := [.v (.slice A5 3 3)]) (Q := fun v_ => v_ = .int .u16 (cks ([ys3, [], ys4]).flatten)) [.slice A5 3 3] (by kernel_rfl) (by kernel_rfl) (by kernel_rfl) (fun G1_ hl_ hr_ => (Sum_ok _ _ [ys3, [], ys4] G1_ (rowLit (hr_ 27 _ rfl) (⟨_, _, rfl, rep_slice hc3 hm3 (hr3.mono hl_), ⟨_, _, rfl, ⟨none, 0, rfl, Nat.le_refl _, Nat.zero_le _, rowAt.nil _ _ _⟩, ⟨_, _, rfl, rep_slice hc4 hm4 (hr4.mono hl_), rfl⟩⟩⟩) (by decide)) (by simp) (by have := wsum_le (bytes_flat hB6) 600 hL6; omega)).mono (fun _ _ _ _ h_ => h_.1)) ?_
      rintro _ rfl
      refine X.back ⟨trivial, Le.refl _, rfl, ?_⟩
      refine XD.norm [0, 2, 6, 7, 28, 29] [] ⟨79, [(0, .v (.slice A1 ys1.length (c - 0))), (2, .v (.int .u8 q)), (6, .v (.bool false)), (7, .v (.int .i64 (min k ((ys1.length : Nat) : Int)))), (28, .v (.int .u16 (cks ([ys3, [], ys4]).flatten))), (29, .v (.slice A1 ys1.length (c - 0)))], []⟩ (by kernel_rfl) trivial ?_
      refine XD.one (i := 9) (l' := (lb 12 1023)) (oA B8 [1, 1, 1, 0, 0] 9) (by kernel_rfl) (by kernel_rfl) (by kernel_rfl) ?_
      refine X.lit 30 22 1 1 [.slice A1 ys1.length (c - 0)] (by kernel_rfl) (fun g => by kernel_rfl) ?_
      intro A7
      refine X.back ⟨trivial, Le.refl _, rfl, ?_⟩
      refine XD.norm [0, 2, 6, 7, 28, 30] [] ⟨79, [(0, .v (.slice A1 ys1.length (c - 0))), (2, .v (.int .u8 q)), (6, .v (.bool false)), (7, .v (.int .i64 (min k ((ys1.length : Nat) : Int)))), (28, .v (.int .u16 (cks ([ys3, [], ys4]).flatten))), (30, .v (.slice A7 1 1))], []⟩ (by kernel_rfl) trivial ?_
      refine XD.one (i := 10) (l' := (lb 12 2047)) (oA B8 [1, 1, 1, 0, 0] 10) (by kernel_rfl) (by kernel_rfl) (by kernel_rfl) ?_
      have hB8 : ∀ p_ ∈ ([ys1] : List (List Int)), isBytes p_ := by intro p_ hp_; simp only [List.mem_cons, List.not_mem_nil, or_false] at hp_; rcases hp_ with rfl; all_goals first | exact (fun _ h_ => absurd h_ (List.not_mem_nil)) | exact row_bytes hr1
      have hL8 : ([ys1] : List (List Int)).flatten.length ≤ 600 := by simp only [List.flatten_cons, List.flatten_nil, List.length_append, List.length_nil]; omega
      refine X.callV (f := 28) (l := [.v (.slice A7 1 1)]) (Q := fun v_ => v_ = .int .u16 (cks ([ys1]).flatten)) [.slice A7 1 1] (by kernel_rfl) (by kernel_rfl) (by kernel_rfl) (fun G1_ hl_ hr_ => (Sum_ok _ _ [ys1] G1_ (rowLit (hr_ 30 _ rfl) (⟨_, _, rfl, rep_slice hc1 hm1 (hr1.mono hl_), rfl⟩) (by decide)) (by simp) (by have := wsum_le (bytes_flat hB8) 600 hL8; omega)).mono (fun _ _ _ _ h_ => h_.1)) ?_
      rintro _ rfl
      refine X.back ⟨trivial, Le.refl _, rfl, ?_⟩
      refine XD.take (i := 11) (l' := (lb 12 4095)) (oA B8 [1, 1, 1, 0, 0] 11) (.v (.bool ((cks ([ys3, [], ys4]).flatten) != (cks ([ys1]).flatten)))) QOk.ctxG (by kernel_rfl) (by kernel_rfl) (by kernel_rfl) (by kernel_rfl) (by kernel_rfl) ?_
      refine XD.done (by kernel_rfl) ?_
      refine X.run 1 [0, 2, 6, 7, 32] [] (.code (cA B8 [1, 1, 1, 0, 1])) [.seq (cA B8 [1, 1, 1, 1])] ⟨79, [(0, .v (.slice A1 ys1.length (c - 0))), (2, .v (.int .u8 q)), (6, .v (.bool false)), (7, .v (.int .i64 (min k ((ys1.length : Nat) : Int)))), (32, .v (.bool ((cks ([ys3, [], ys4]).flatten) != (cks ([ys1]).flatten))))], []⟩ (by kernel_rfl) ?_
      refine X.isFalse 32 rfl (by rw [← hys3, ← hys4, cks_parts (l := ys1) _ (by omega)]; simp) ?_
      refine X.run 8 [0, 2, 6, 33, 35] [] (.ops (aA B8 [1, 1, 1, 1, 0]) (oA B8 [1, 1, 1, 1, 0] 3 :: lA B8 [1, 1, 1, 1, 0] 4)) [.seq (cA B8 [1, 1, 1, 1, 1])] ⟨79, [(0, .v (.slice A1 ys1.length (c - 0))), (2, .v (.int .u8 q)), (6, .v (.bool false)), (33, .v (.int .i64 (min k ((ys1.length : Nat) : Int)))), (35, .v (.int .i64 (Int.tmod (min k ((ys1.length : Nat) : Int)) 2)))], []⟩ (by kernel_rfl) ?_
      refine X.known 35 (y := .v (.int .i64 ((min k ((ys1.length : Nat) : Int)) % 2))) rfl (congrArg (fun z_ => AV.v (.int .i64 z_)) (Int.tmod_eq_emod_of_nonneg (by omega))) ?_
      refine X.run 1 [0, 2, 6, 36] [] (.ops (aA B8 [1, 1, 1, 1, 0]) (oA B8 [1, 1, 1, 1, 0] 4 :: lA B8 [1, 1, 1, 1, 0] 5)) [.seq (cA B8 [1, 1, 1, 1, 1])] ⟨79, [(0, .v (.slice A1 ys1.length (c - 0))), (2, .v (.int .u8 q)), (6, .v (.bool false)), (36, .v (.int .i64 (IntKind.i64.wrap ((min k ((ys1.length : Nat) : Int)) - ((min k ((ys1.length : Nat) : Int)) % 2)))))], []⟩ (by kernel_rfl) ?_
      refine X.known 36 (y := .v (.int .i64 ((min k ((ys1.length : Nat) : Int)) - ((min k ((ys1.length : Nat) : Int)) % 2)))) rfl (congrArg (fun z_ => AV.v (.int .i64 z_)) (wi64 (by omega) (by omega))) ?_
      refine X.run 5 [0, 2, 6, 8] [] (.code (cA B8 [1, 1, 1, 1, 1, 0, 0])) [.seq (cA B8 [1, 1, 1, 1, 1, 0, 1]), .seq (cA B8 [1, 1, 1, 1, 1, 1])] ⟨79, [(0, .v (.slice A1 ys1.length (c - 0))), (2, .v (.int .u8 q)), (6, .v (.bool false)), (8, .v (.int .i64 ((min k ((ys1.length : Nat) : Int)) - ((min k ((ys1.length : Nat) : Int)) % 2))))], []⟩ (by kernel_rfl) ?_
      have hb_d9 := hb
      have hr1_d9 := hr1
      have hr3_d9 := hr3
      have hr4_d9 := hr4
      refine XD.open (id := 6) (arr := aA B8 [1, 1, 1, 1, 1, 0, 0]) 18 [] [] [] (by kernel_rfl) (by kernel_rfl) (by kernel_rfl) (by kernel_rfl) (by kernel_rfl) trivial (by simp) rfl (fun ρ0 => ?_)
      refine XD.take (i := 0) (l' := (lb 18 1)) (oA B8 [1, 1, 1, 1, 1, 0, 0] 0) (.v (.slice A1 ys1.length (c - 0))) QOk.ctxG (by kernel_rfl) (by kernel_rfl) (by kernel_rfl) (by kernel_rfl) (by kernel_rfl) ?_
      refine XD.take (i := 1) (l' := (lb 18 3)) (oA B8 [1, 1, 1, 1, 1, 0, 0] 1) (.v (.int .i64 ((ys1.length : Nat) : Int))) QOk.ctxG (by kernel_rfl) (by kernel_rfl) (by kernel_rfl) (by kernel_rfl) (by kernel_rfl) ?_
      refine XD.take (i := 2) (l' := (lb 18 7)) (oA B8 [1, 1, 1, 1, 1, 0, 0] 2) (.v (.int .i64 (Int.tmod ((ys1.length : Nat) : Int) 2))) QOk.ctxG (by kernel_rfl) (by kernel_rfl) (by kernel_rfl) (by kernel_rfl) (by kernel_rfl) ?_
      refine XD.take (i := 3) (l' := (lb 18 15)) (oA B8 [1, 1, 1, 1, 1, 0, 0] 3) (.v (.bool ((Int.tmod ((ys1.length : Nat) : Int) 2) == 0))) QOk.ctxG (by kernel_rfl) (by kernel_rfl) (by kernel_rfl) (by kernel_rfl) (by kernel_rfl) ?_
      refine XD.take (i := 4) (l' := (lb 18 31)) (oA B8 [1, 1, 1, 1, 1, 0, 0] 4) (.v (.bool ((Int.tmod ((ys1.length : Nat) : Int) 2) == 0))) QOk.ctxG (by kernel_rfl) (by kernel_rfl) (by kernel_rfl) (by kernel_rfl) (by kernel_rfl) ?_
      refine XD.split 41 rfl (fun h10 => ?_) (fun h10 => ?_)
      · -- slot 41: (Int.tmod ((ys1.length : Nat) : Int) 2) == 0 is True
        replace h10 : (Int.tmod ((ys1.length : Nat) : Int) 2) = 0 := by simpa using h10
        have htm_ : Int.tmod ((ys1.length : Nat) : Int) 2 = ((ys1.length : Nat) : Int) % 2 := Int.tmod_eq_emod_of_nonneg (by omega)
        refine XD.take (i := 5) (l' := (lb 18 63)) (oA B8 [1, 1, 1, 1, 1, 0, 0] 5) (.v (.slice A1 ys1.length (c - 0))) QOk.ctxG (by kernel_rfl) (by kernel_rfl) (by kernel_rfl) (by kernel_rfl) (by kernel_rfl) ?_
        refine XD.take (i := 6) (l' := (lb 18 127)) (oA B8 [1, 1, 1, 1, 1, 0, 0] 6) (.v (.int .i64 ((min k ((ys1.length : Nat) : Int)) - ((min k ((ys1.length : Nat) : Int)) % 2)))) QOk.ctxG (by kernel_rfl) (by kernel_rfl) (by kernel_rfl) (by kernel_rfl) (by kernel_rfl) ?_
        have hlo11 : ((min k ((ys1.length : Nat) : Int)) - ((min k ((ys1.length : Nat) : Int)) % 2)).toNat ≤ ys1.length := by omega
        have hhi11 : ys1.length ≤ ys1.length := by omega
        refine XD.cut (i := 7) (l' := (lb 18 255)) (o := (oA B8 [1, 1, 1, 1, 1, 0, 0] 7)) (t := 22) (e := 5) (sz := 1) (n := ys1.length) (c := c - 0) (A := A1) (x := .tmp 42) (l0 := (some (.tmp 43))) (h := none) (lv := (some (.int .i64 ((min k ((ys1.length : Nat) : Int)) - ((min k ((ys1.length : Nat) : Int)) % 2))))) (hv := none) (((min k ((ys1.length : Nat) : Int)) - ((min k ((ys1.length : Nat) : Int)) % 2)).toNat) ys1.length QOk.ctxG (by kernel_rfl) (by kernel_rfl) (by kernel_rfl) (by kernel_rfl) (by kernel_rfl) (by kernel_rfl) (by kernel_rfl) (by kernel_rfl) (by kernel_rfl) (⟨_, _, rfl, by omega, rfl⟩) (rfl) hlo11 (Nat.le_trans hhi11 hc1) (by kernel_rfl) ?_
        obtain ⟨A11, hA11⟩ : ∃ A_, cutA A1 (c - 0) (((min k ((ys1.length : Nat) : Int)) - ((min k ((ys1.length : Nat) : Int)) % 2)).toNat) 1 = A_ := ⟨_, rfl⟩
        obtain ⟨ys11, hys11⟩ : ∃ l_, (ys1.take ys1.length).drop (((min k ((ys1.length : Nat) : Int)) - ((min k ((ys1.length : Nat) : Int)) % 2)).toNat) = l_ := ⟨_, rfl⟩
        have hr11 : rowAt (D.int .u8) G (cutA A1 (c - 0) (((min k ((ys1.length : Nat) : Int)) - ((min k ((ys1.length : Nat) : Int)) % 2)).toNat) 1) ((ys1.take ys1.length).drop (((min k ((ys1.length : Nat) : Int)) - ((min k ((ys1.length : Nat) : Int)) % 2)).toNat)) := rowAt_cut hr1 hlo11 hhi11 hc1
        have hl11 : ys1.length - (((min k ((ys1.length : Nat) : Int)) - ((min k ((ys1.length : Nat) : Int)) % 2)).toNat) = ys11.length := by rw [← hys11, List.length_drop, List.length_take]; omega
        have hc11 : ys11.length ≤ (c - 0) - (((min k ((ys1.length : Nat) : Int)) - ((min k ((ys1.length : Nat) : Int)) % 2)).toNat) := by omega
        have hm11 : (c - 0) - (((min k ((ys1.length : Nat) : Int)) - ((min k ((ys1.length : Nat) : Int)) % 2)).toNat) ≤ maxLen := Nat.le_trans (Nat.sub_le _ _) hm1
        rw [hys11, show cutA A1 (c - 0) (((min k ((ys1.length : Nat) : Int)) - ((min k ((ys1.length : Nat) : Int)) % 2)).toNat) _ = A11 from hA11] at hr11
        rw [hA11, hl11]
        refine XD.take (i := 8) (l' := (lb 18 511)) (oA B8 [1, 1, 1, 1, 1, 0, 0] 8) (.v (.slice A1 ys1.length (c - 0))) QOk.ctxG (by kernel_rfl) (by kernel_rfl) (by kernel_rfl) (by kernel_rfl) (by kernel_rfl) ?_
        refine XD.take (i := 9) (l' := (lb 18 1023)) (oA B8 [1, 1, 1, 1, 1, 0, 0] 9) (.v (.int .i64 ((min k ((ys1.length : Nat) : Int)) - ((min k ((ys1.length : Nat) : Int)) % 2)))) QOk.ctxG (by kernel_rfl) (by kernel_rfl) (by kernel_rfl) (by kernel_rfl) (by kernel_rfl) ?_
        have hlo12 : 0 ≤ ((min k ((ys1.length : Nat) : Int)) - ((min k ((ys1.length : Nat) : Int)) % 2)).toNat := by omega
        have hhi12 : ((min k ((ys1.length : Nat) : Int)) - ((min k ((ys1.length : Nat) : Int)) % 2)).toNat ≤ ys1.length := by omega
        refine XD.cut (i := 10) (l' := (lb 18 2047)) (o := (oA B8 [1, 1, 1, 1, 1, 0, 0] 10)) (t := 22) (e := 5) (sz := 1) (n := ys1.length) (c := c - 0) (A := A1) (x := .tmp 45) (l0 := none) (h := (some (.tmp 46))) (lv := none) (hv := (some (.int .i64 ((min k ((ys1.length : Nat) : Int)) - ((min k ((ys1.length : Nat) : Int)) % 2))))) 0 (((min k ((ys1.length : Nat) : Int)) - ((min k ((ys1.length : Nat) : Int)) % 2)).toNat) QOk.ctxG (by kernel_rfl) (by kernel_rfl) (by kernel_rfl) (by kernel_rfl) (by kernel_rfl) (by kernel_rfl) (by kernel_rfl) (by kernel_rfl) (by kernel_rfl) (rfl) (⟨_, _, rfl, by omega, rfl⟩) hlo12 (Nat.le_trans hhi12 hc1) (by kernel_rfl) ?_
        obtain ⟨A12, hA12⟩ : ∃ A_, cutA A1 (c - 0) 0 1 = A_ := ⟨_, rfl⟩
        obtain ⟨ys12, hys12⟩ : ∃ l_, (ys1.take (((min k ((ys1.length : Nat) : Int)) - ((min k ((ys1.length : Nat) : Int)) % 2)).toNat)).drop 0 = l_ := ⟨_, rfl⟩
        have hr12 : rowAt (D.int .u8) G (cutA A1 (c - 0) 0 1) ((ys1.take (((min k ((ys1.length : Nat) : Int)) - ((min k ((ys1.length : Nat) : Int)) % 2)).toNat)).drop 0) := rowAt_cut hr1 hlo12 hhi12 hc1
        have hl12 : (((min k ((ys1.length : Nat) : Int)) - ((min k ((ys1.length : Nat) : Int)) % 2)).toNat) - 0 = ys12.length := by rw [← hys12, List.length_drop, List.length_take]; omega
        have hc12 : ys12.length ≤ (c - 0) - 0 := by omega
        have hm12 : (c - 0) - 0 ≤ maxLen := Nat.le_trans (Nat.sub_le _ _) hm1
        rw [hys12, show cutA A1 (c - 0) 0 _ = A12 from hA12] at hr12
        rw [hA12, hl12]
        refine XD.take (i := 13) (l' := (lb 18 10239)) (oA B8 [1, 1, 1, 1, 1, 0, 0] 13) (.v (.slice A1 ys1.length (c - 0))) QOk.ctxG (by kernel_rfl) (by kernel_rfl) (by kernel_rfl) (by kernel_rfl) (by kernel_rfl) ?_
        refine XD.norm [0, 2, 6, 41, 44, 47, 50] [] ⟨79, [(0, .v (.slice A1 ys1.length (c - 0))), (2, .v (.int .u8 q)), (6, .v (.bool false)), (41, .v (.bool true)), (44, .v (.slice A11 ys11.length ((c - 0) - (((min k ((ys1.length : Nat) : Int)) - ((min k ((ys1.length : Nat) : Int)) % 2)).toNat)))), (47, .v (.slice A12 ys12.length ((c - 0) - 0))), (50, .v (.slice A1 ys1.length (c - 0)))], []⟩ (by kernel_rfl) trivial ?_
        refine XD.two (i := 11) (j := 14) (li := (lb 18 12287)) (lj := (lb 18 26623)) (oA B8 [1, 1, 1, 1, 1, 0, 0] 11) (oA B8 [1, 1, 1, 1, 1, 0, 0] 14) (by kernel_rfl) (by kernel_rfl) (by kernel_rfl) (by kernel_rfl) (by kernel_rfl) ?_ ?_
        · -- 11 first
          refine X.lit 48 22 1 2 [.slice A11 ys11.length ((c - 0) - (((min k ((ys1.length : Nat) : Int)) - ((min k ((ys1.length : Nat) : Int)) % 2)).toNat)), .slice A12 ys12.length ((c - 0) - 0)] (by kernel_rfl) (fun g => by kernel_rfl) ?_
          intro A13
          refine X.back ⟨trivial, Le.refl _, rfl, ?_⟩
          refine XD.norm [0, 2, 6, 41, 48, 50] [] ⟨79, [(0, .v (.slice A1 ys1.length (c - 0))), (2, .v (.int .u8 q)), (6, .v (.bool false)), (41, .v (.bool true)), (48, .v (.slice A13 2 2)), (50, .v (.slice A1 ys1.length (c - 0)))], []⟩ (by kernel_rfl) trivial ?_
          refine XD.two (i := 12) (j := 14) (li := (lb 18 16383)) (lj := (lb 18 28671)) (oA B8 [1, 1, 1, 1, 1, 0, 0] 12) (oA B8 [1, 1, 1, 1, 1, 0, 0] 14) (by kernel_rfl) (by kernel_rfl) (by kernel_rfl) (by kernel_rfl) (by kernel_rfl) ?_ ?_
          · -- 12 first
            have hB14 : ∀ p_ ∈ ([ys11, ys12] : List (List Int)), isBytes p_ := by intro p_ hp_; simp only [List.mem_cons, List.not_mem_nil, or_false] at hp_; rcases hp_ with rfl | rfl; all_goals first | exact (fun _ h_ => absurd h_ (List.not_mem_nil)) | exact row_bytes hr11 | exact row_bytes hr12
            have hL14 : ([ys11, ys12] : List (List Int)).flatten.length ≤ 600 := by simp only [List.flatten_cons, List.flatten_nil, List.length_append, List.length_nil]; omega
            refine X.callV (f := 28) (l := [.v (.slice A13 2 2)]) (Q := fun v_ => v_ = .int .u16 (cks ([ys11, ys12]).flatten)) [.slice A13 2 2] (by kernel_rfl) (by kernel_rfl) (by kernel_rfl) (fun G1_ hl_ hr_ => (Sum_ok _ _ [ys11, ys12] G1_ (rowLit (hr_ 48 _ rfl) (⟨_, _, rfl, rep_slice hc11 hm11 (hr11.mono hl_), ⟨_, _, rfl, rep_slice hc12 hm12 (hr12.mono hl_), rfl⟩⟩) (by decide)) (by simp) (by have := wsum_le (bytes_flat hB14) 600 hL14; omega)).mono (fun _ _ _ _ h_ => h_.1)) ?_
            rintro _ rfl
            refine X.back ⟨trivial, Le.refl _, rfl, ?_⟩
            refine XD.norm [0, 2, 6, 41, 49, 50] [] ⟨79, [(0, .v (.slice A1 ys1.length (c - 0))), (2, .v (.int .u8 q)), (6, .v (.bool false)), (41, .v (.bool true)), (49, .v (.int .u16 (cks ([ys11, ys12]).flatten))), (50, .v (.slice A1 ys1.length (c - 0)))], []⟩ (by kernel_rfl) trivial ?_
            refine XD.one (i := 14) (l' := (lb 18 32767)) (oA B8 [1, 1, 1, 1, 1, 0, 0] 14) (by kernel_rfl) (by kernel_rfl) (by kernel_rfl) ?_
            refine X.lit 51 22 1 1 [.slice A1 ys1.length (c - 0)] (by kernel_rfl) (fun g => by kernel_rfl) ?_
            intro A15
            refine X.back ⟨trivial, Le.refl _, rfl, ?_⟩
            refine XD.norm [0, 2, 6, 41, 49, 51] [] ⟨79, [(0, .v (.slice A1 ys1.length (c - 0))), (2, .v (.int .u8 q)), (6, .v (.bool false)), (41, .v (.bool true)), (49, .v (.int .u16 (cks ([ys11, ys12]).flatten))), (51, .v (.slice A15 1 1))], []⟩ (by kernel_rfl) trivial ?_
            refine XD.one (i := 15) (l' := (lb 18 65535)) (oA B8 [1, 1, 1, 1, 1, 0, 0] 15) (by kernel_rfl) (by kernel_rfl) (by kernel_rfl) ?_
            have hB16 : ∀ p_ ∈ ([ys1] : List (List Int)), isBytes p_ := by intro p_ hp_; simp only [List.mem_cons, List.not_mem_nil, or_false] at hp_; rcases hp_ with rfl; all_goals first | exact (fun _ h_ => absurd h_ (List.not_mem_nil)) | exact row_bytes hr1
            have hL16 : ([ys1] : List (List Int)).flatten.length ≤ 600 := by simp only [List.flatten_cons, List.flatten_nil, List.length_append, List.length_nil]; omega
            refine X.callV (f := 28) (l := [.v (.slice A15 1 1)]) (Q := fun v_ => v_ = .int .u16 (cks ([ys1]).flatten)) [.slice A15 1 1] (by kernel_rfl) (by kernel_rfl) (by kernel_rfl) (fun G1_ hl_ hr_ => (Sum_ok _ _ [ys1] G1_ (rowLit (hr_ 51 _ rfl) (⟨_, _, rfl, rep_slice hc1 hm1 (hr1.mono hl_), rfl⟩) (by decide)) (by simp) (by have := wsum_le (bytes_flat hB16) 600 hL16; omega)).mono (fun _ _ _ _ h_ => h_.1)) ?_
            rintro _ rfl
            refine X.back ⟨trivial, Le.refl _, rfl, ?_⟩
            refine XD.take (i := 16) (l' := (lb 18 131071)) (oA B8 [1, 1, 1, 1, 1, 0, 0] 16) (.v (.bool ((cks ([ys11, ys12]).flatten) != (cks ([ys1]).flatten)))) QOk.ctxG (by kernel_rfl) (by kernel_rfl) (by kernel_rfl) (by kernel_rfl) (by kernel_rfl) ?_
            refine XD.take (i := 17) (l' := (lb 18 262143)) (oA B8 [1, 1, 1, 1, 1, 0, 0] 17) (.v (.bool ((cks ([ys11, ys12]).flatten) != (cks ([ys1]).flatten)))) QOk.ctxG (by kernel_rfl) (by kernel_rfl) (by kernel_rfl) (by kernel_rfl) (by kernel_rfl) ?_
            refine XD.done (by kernel_rfl) ?_
            refine X.run 1 [0, 2, 6, 54] [] (.code (cA B8 [1, 1, 1, 1, 1, 0, 1])) [.seq (cA B8 [1, 1, 1, 1, 1, 1])] ⟨79, [(0, .v (.slice A1 ys1.length (c - 0))), (2, .v (.int .u8 q)), (6, .v (.bool false)), (54, .v (.bool ((cks ([ys11, ys12]).flatten) != (cks ([ys1]).flatten))))], []⟩ (by kernel_rfl) ?_
            refine X.isFalse 54 rfl (by rw [← hys11, ← hys12, cks_swap (l := ys1) _ (by omega) (by omega) (by omega)]; simp) ?_
            refine X.run 8 [0, 6, 56, 58] [] (.ops (aA B8 [1, 1, 1, 1, 1, 1, 0]) (oA B8 [1, 1, 1, 1, 1, 1, 0] 3 :: lA B8 [1, 1, 1, 1, 1, 1, 0] 4)) [.seq (cA B8 [1, 1, 1, 1, 1, 1, 1])] ⟨79, [(0, .v (.slice A1 ys1.length (c - 0))), (6, .v (.bool false)), (56, .v (.slice A1 ys1.length (c - 0))), (58, .v (.int .i64 (IntKind.i64.wrap q)))], []⟩ (by kernel_rfl) ?_
            refine X.known 58 (y := .v (.int .i64 q)) rfl (congrArg (fun z_ => AV.v (.int .i64 z_)) (wi64 (by omega) (by omega))) ?_
            refine X.callG (f := 40) (l := [.v (.slice A1 ys1.length (c - 0)), .v (.int .i64 q)]) [.slice A1 ys1.length (c - 0), .int .i64 q] 559 (by kernel_rfl) (by kernel_rfl) (by kernel_rfl) (Fill_ok _ _ ys1 q _ hr1 hc1 (by omega) (by omega)) ?_
            rintro v17 G17 rows17 hG17 ⟨ea17, eb17⟩
            replace hb := hb.mono hG17.le
            replace hr1 := hr1.mono hG17.le
            replace hr3 := hr3.mono hG17.le
            replace hr4 := hr4.mono hG17.le
            replace hr11 := hr11.mono hG17.le
            replace hr12 := hr12.mono hG17.le
            by_cases hok17 : (0 ≤ q ∧ q % 2 = 0 ∧ q + 2 ≤ (ys1.length : Int))
            · -- filled: True
              obtain ⟨A17, c17, rfl, hc17, rfl⟩ := eb17 hok17
              clear ea17 eb17
              refine X.tellR [559] (R' := [(559, ⟨5, 1, .slice A17 ys1.length c17, ys1.length, (filled ys1 q).map (Value.int .u8)⟩)]) rfl ?_
              have hbf17 := row_bytes hr1
              refine X.run 18 [6, 9, 64, 70] [] (.ops (aA B8 [1, 1, 1, 1, 1, 1, 1, 0]) (oA B8 [1, 1, 1, 1, 1, 1, 1, 0] 9 :: lA B8 [1, 1, 1, 1, 1, 1, 1, 0] 10)) [.seq (cA B8 [1, 1, 1, 1, 1, 1, 1, 1])] ⟨79, [(6, .v (.bool false)), (9, .v (.slice A17 ys1.length c17)), (64, .v (.bool false)), (70, .v (.bool (((ys1.length : Nat) : Int) == ((ys1.length : Nat) : Int))))], []⟩ (by kernel_rfl) ?_
              refine X.isTrue 70 rfl (by simp) ?_
              refine X.run 1 [6, 64, 70, 71] [] (.ops (aA B8 [1, 1, 1, 1, 1, 1, 1, 0]) (oA B8 [1, 1, 1, 1, 1, 1, 1, 0] 10 :: lA B8 [1, 1, 1, 1, 1, 1, 1, 0] 11)) [.seq (cA B8 [1, 1, 1, 1, 1, 1, 1, 1])] ⟨79, [(6, .v (.bool false)), (64, .v (.bool false)), (70, .v (.bool true)), (71, .v (.slice A17 ys1.length c17))], []⟩ (by kernel_rfl) ?_
              refine X.lit 72 22 1 1 [.slice A17 ys1.length c17] (by kernel_rfl) (fun g => by kernel_rfl) ?_
              intro A18
              refine X.run 0 [6, 64, 70, 72] [] (.ops (aA B8 [1, 1, 1, 1, 1, 1, 1, 0]) (oA B8 [1, 1, 1, 1, 1, 1, 1, 0] 11 :: lA B8 [1, 1, 1, 1, 1, 1, 1, 0] 12)) [.seq (cA B8 [1, 1, 1, 1, 1, 1, 1, 1])] ⟨79, [(6, .v (.bool false)), (64, .v (.bool false)), (70, .v (.bool true)), (72, .v (.slice A18 1 1))], []⟩ (by kernel_rfl) ?_
              refine X.capLe (i := 559) (q := ⟨5, 1, .slice A17 ys1.length c17, ys1.length, (filled ys1 q).map (Value.int .u8)⟩) (n := ys1.length) (c := c17) (A := A17) rfl rfl fun hn19 hx19 => ?_
              have hl19 : (filled ys1 q).length = ys1.length := by simp [filled]
              have hb19 : isBytes (filled ys1 q) := by unfold filled; exact bytes_set (bytes_set (bytes_set (bytes_set hbf17 (by omega)) (by omega)) (by rw [u8_wrap]; omega)) (by rw [u8_wrap]; omega)
              refine X.callV (f := 30) (l := [.v (.slice A18 1 1)]) (Q := fun v_ => v_ = .bool (cks (filled ys1 q) == 0)) [.slice A18 1 1] (by kernel_rfl) (by kernel_rfl) (by kernel_rfl) (fun G1_ hl_ hr_ => (Verify_ok _ _ [filled ys1 q] G1_ (rowLit (hr_ 72 _ rfl) ⟨_, _, rfl, (show (D.slice (D.int .u8)).rep G1_ (filled ys1 q) [.slice A17 ys1.length c17] by rw [← hl19]; exact rep_slice (by omega) hx19 (rowLit (hr_ 559 _ rfl) (reps_ints hb19) (by decide))), rfl⟩ (by decide)) (by simp) (by rw [List.flatten_cons, List.flatten_nil, List.append_nil]; have := wsum_le hb19 300 (by omega); omega)).mono (fun _ _ _ _ h_ => by rw [h_.1, List.flatten_cons, List.flatten_nil, List.append_nil])) ?_
              rintro _ rfl
              refine X.run 3 [6, 76] [] (.ops (aA B8 [1, 1, 1, 1, 1, 1, 1, 0]) (oA B8 [1, 1, 1, 1, 1, 1, 1, 0] 15 :: lA B8 [1, 1, 1, 1, 1, 1, 1, 0] 16)) [.seq (cA B8 [1, 1, 1, 1, 1, 1, 1, 1])] ⟨79, [(6, .v (.bool false)), (76, .v (.bool (cks (filled ys1 q) == 0)))], []⟩ (by kernel_rfl) ?_
              refine X.isTrue 76 rfl (by rw [cks_filled hbf17 hok17.1 hok17.2.1 hok17.2.2]; rfl) ?_
              refine X.callG (f := 31) (l := []) [] 0 (by kernel_rfl) (by kernel_rfl) (by kernel_rfl) (works10_ok _) ?_
              rintro v20 G20 rows20 hG20 ⟨rfl, rfl⟩
              replace hb := hb.mono hG20.le
              replace hr1 := hr1.mono hG20.le
              replace hr3 := hr3.mono hG20.le
              replace hr4 := hr4.mono hG20.le
              replace hr11 := hr11.mono hG20.le
              replace hr12 := hr12.mono hG20.le
              refine X.run 5 [6] [] (.ex .ret) [] ⟨79, [(6, .v (.bool true))], []⟩ (by kernel_rfl) ?_
              refine doneG (.inl rfl) [.bool true] [] (by kernel_rfl) rfl rfl ((hG17.trans hG20)) ?_
              -- end 1 (TT)
              exact ⟨rfl, rfl⟩
            · -- filled: False
              obtain ⟨rfl, rfl⟩ := ea17 hok17
              clear ea17 eb17
              refine X.run 24 [6, 76] [] (.ops (aA B8 [1, 1, 1, 1, 1, 1, 1, 0]) (oA B8 [1, 1, 1, 1, 1, 1, 1, 0] 15 :: lA B8 [1, 1, 1, 1, 1, 1, 1, 0] 16)) [.seq (cA B8 [1, 1, 1, 1, 1, 1, 1, 1])] ⟨79, [(6, .v (.bool false)), (76, .v (.bool true))], []⟩ (by kernel_rfl) ?_
              refine X.callG (f := 31) (l := []) [] 0 (by kernel_rfl) (by kernel_rfl) (by kernel_rfl) (works10_ok _) ?_
              rintro v21 G21 rows21 hG21 ⟨rfl, rfl⟩
              replace hb := hb.mono hG21.le
              replace hr1 := hr1.mono hG21.le
              replace hr3 := hr3.mono hG21.le
              replace hr4 := hr4.mono hG21.le
              replace hr11 := hr11.mono hG21.le
              replace hr12 := hr12.mono hG21.le
              refine X.run 5 [6] [] (.ex .ret) [] ⟨79, [(6, .v (.bool true))], []⟩ (by kernel_rfl) ?_
              refine doneG (.inl rfl) [.bool true] [] (by kernel_rfl) rfl rfl ((hG17.trans hG21)) ?_
              -- end 2 (TF)
              exact ⟨rfl, rfl⟩
          · -- 14 first
            refine X.lit 51 22 1 1 [.slice A1 ys1.length (c - 0)] (by kernel_rfl) (fun g => by kernel_rfl) ?_
            intro A22
            refine X.back ⟨trivial, Le.refl _, rfl, ?_⟩
            refine XD.norm [0, 2, 6, 41, 48, 51] [] ⟨79, [(0, .v (.slice A1 ys1.length (c - 0))), (2, .v (.int .u8 q)), (6, .v (.bool false)), (41, .v (.bool true)), (48, .v (.slice A13 2 2)), (51, .v (.slice A22 1 1))], []⟩ (by kernel_rfl) trivial ?_
            refine XD.one (i := 12) (l' := (lb 18 32767)) (oA B8 [1, 1, 1, 1, 1, 0, 0] 12) (by kernel_rfl) (by kernel_rfl) (by kernel_rfl) ?_
            have hB23 : ∀ p_ ∈ ([ys11, ys12] : List (List Int)), isBytes p_ := by intro p_ hp_; simp only [List.mem_cons, List.not_mem_nil, or_false] at hp_; rcases hp_ with rfl | rfl; all_goals first | exact (fun _ h_ => absurd h_ (List.not_mem_nil)) | exact row_bytes hr11 | exact row_bytes hr12
            have hL23 : ([ys11, ys12] : List (List Int)).flatten.length ≤ 600 := by simp only [List.flatten_cons, List.flatten_nil, List.length_append, List.length_nil]; omega
            refine X.callV (f := 28) (l := [.v (.slice A13 2 2)]) (Q := fun v_ => v_ = .int .u16 (cks ([ys11, ys12]).flatten)) [.slice A13 2 2] (by kernel_rfl) (by kernel_rfl) (by kernel_rfl) (fun G1_ hl_ hr_ => (Sum_ok _ _ [ys11, ys12] G1_ (rowLit (hr_ 48 _ rfl) (⟨_, _, rfl, rep_slice hc11 hm11 (hr11.mono hl_), ⟨_, _, rfl, rep_slice hc12 hm12 (hr12.mono hl_), rfl⟩⟩) (by decide)) (by simp) (by have := wsum_le (bytes_flat hB23) 600 hL23; omega)).mono (fun _ _ _ _ h_ => h_.1)) ?_
            rintro _ rfl
            refine X.back ⟨trivial, Le.refl _, rfl, ?_⟩
            refine XD.norm [0, 2, 6, 41, 49, 51] [] ⟨79, [(0, .v (.slice A1 ys1.length (c - 0))), (2, .v (.int .u8 q)), (6, .v (.bool false)), (41, .v (.bool true)), (49, .v (.int .u16 (cks ([ys11, ys12]).flatten))), (51, .v (.slice A22 1 1))], []⟩ (by kernel_rfl) trivial ?_
            refine XD.one (i := 15) (l' := (lb 18 65535)) (oA B8 [1, 1, 1, 1, 1, 0, 0] 15) (by kernel_rfl) (by kernel_rfl) (by kernel_rfl) ?_
            have hB24 : ∀ p_ ∈ ([ys1] : List (List Int)), isBytes p_ := by intro p_ hp_; simp only [List.mem_cons, List.not_mem_nil, or_false] at hp_; rcases hp_ with rfl; all_goals first | exact (fun _ h_ => absurd h_ (List.not_mem_nil)) | exact row_bytes hr1
            have hL24 : ([ys1] : List (List Int)).flatten.length ≤ 600 := by simp only [List.flatten_cons, List.flatten_nil, List.length_append, List.length_nil]; omega
            refine X.callV (f := 28) (l := [.v (.slice A22 1 1)]) (Q := fun v_ => v_ = .int .u16 (cks ([ys1]).flatten)) [.slice A22 1 1] (by kernel_rfl) (by kernel_rfl) (by kernel_rfl) (fun G1_ hl_ hr_ => (Sum_ok _ _ [ys1] G1_ (rowLit (hr_ 51 _ rfl) (⟨_, _, rfl, rep_slice hc1 hm1 (hr1.mono hl_), rfl⟩) (by decide)) (by simp) (by have := wsum_le (bytes_flat hB24) 600 hL24; omega)).mono (fun _ _ _ _ h_ => h_.1)) ?_
            rintro _ rfl
            refine X.back ⟨trivial, Le.refl _, rfl, ?_⟩
            refine XD.take (i := 16) (l' := (lb 18 131071)) (oA B8 [1, 1, 1, 1, 1, 0, 0] 16) (.v (.bool ((cks ([ys11, ys12]).flatten) != (cks ([ys1]).flatten)))) QOk.ctxG (by kernel_rfl) (by kernel_rfl) (by kernel_rfl) (by kernel_rfl) (by kernel_rfl) ?_
            refine XD.take (i := 17) (l' := (lb 18 262143)) (oA B8 [1, 1, 1, 1, 1, 0, 0] 17) (.v (.bool ((cks ([ys11, ys12]).flatten) != (cks ([ys1]).flatten)))) QOk.ctxG (by kernel_rfl) (by kernel_rfl) (by kernel_rfl) (by kernel_rfl) (by kernel_rfl) ?_
            refine XD.done (by kernel_rfl) ?_
            refine X.run 1 [0, 2, 6, 54] [] (.code (cA B8 [1, 1, 1, 1, 1, 0, 1])) [.seq (cA B8 [1, 1, 1, 1, 1, 1])] ⟨79, [(0, .v (.slice A1 ys1.length (c - 0))), (2, .v (.int .u8 q)), (6, .v (.bool false)), (54, .v (.bool ((cks ([ys11, ys12]).flatten) != (cks ([ys1]).flatten))))], []⟩ (by kernel_rfl) ?_
            refine X.isFalse 54 rfl (by rw [← hys11, ← hys12, cks_swap (l := ys1) _ (by omega) (by omega) (by omega)]; simp) ?_
            refine X.run 8 [0, 6, 56, 58] [] (.ops (aA B8 [1, 1, 1, 1, 1, 1, 0]) (oA B8 [1, 1, 1, 1, 1, 1, 0] 3 :: lA B8 [1, 1, 1, 1, 1, 1, 0] 4)) [.seq (cA B8 [1, 1, 1, 1, 1, 1, 1])] ⟨79, [(0, .v (.slice A1 ys1.length (c - 0))), (6, .v (.bool false)), (56, .v (.slice A1 ys1.length (c - 0))), (58, .v (.int .i64 (IntKind.i64.wrap q)))], []⟩ (by kernel_rfl) ?_
            refine X.known 58 (y := .v (.int .i64 q)) rfl (congrArg (fun z_ => AV.v (.int .i64 z_)) (wi64 (by omega) (by omega))) ?_
            refine X.callG (f := 40) (l := [.v (.slice A1 ys1.length (c - 0)), .v (.int .i64 q)]) [.slice A1 ys1.length (c - 0), .int .i64 q] 559 (by kernel_rfl) (by kernel_rfl) (by kernel_rfl) (Fill_ok _ _ ys1 q _ hr1 hc1 (by omega) (by omega)) ?_
            rintro v25 G25 rows25 hG25 ⟨ea25, eb25⟩
            replace hb := hb.mono hG25.le
            replace hr1 := hr1.mono hG25.le
            replace hr3 := hr3.mono hG25.le
            replace hr4 := hr4.mono hG25.le
            replace hr11 := hr11.mono hG25.le
            replace hr12 := hr12.mono hG25.le
            by_cases hok25 : (0 ≤ q ∧ q % 2 = 0 ∧ q + 2 ≤ (ys1.length : Int))
            · -- filled: True
              obtain ⟨A25, c25, rfl, hc25, rfl⟩ := eb25 hok25
              clear ea25 eb25
              refine X.tellR [559] (R' := [(559, ⟨5, 1, .slice A25 ys1.length c25, ys1.length, (filled ys1 q).map (Value.int .u8)⟩)]) rfl ?_
              have hbf25 := row_bytes hr1
              refine X.run 18 [6, 9, 64, 70] [] (.ops (aA B8 [1, 1, 1, 1, 1, 1, 1, 0]) (oA B8 [1, 1, 1, 1, 1, 1, 1, 0] 9 :: lA B8 [1, 1, 1, 1, 1, 1, 1, 0] 10)) [.seq (cA B8 [1, 1, 1, 1, 1, 1, 1, 1])] ⟨79, [(6, .v (.bool false)), (9, .v (.slice A25 ys1.length c25)), (64, .v (.bool false)), (70, .v (.bool (((ys1.length : Nat) : Int) == ((ys1.length : Nat) : Int))))], []⟩ (by kernel_rfl) ?_
              refine X.isTrue 70 rfl (by simp) ?_
              refine X.run 1 [6, 64, 70, 71] [] (.ops (aA B8 [1, 1, 1, 1, 1, 1, 1, 0]) (oA B8 [1, 1, 1, 1, 1, 1, 1, 0] 10 :: lA B8 [1, 1, 1, 1, 1, 1, 1, 0] 11)) [.seq (cA B8 [1, 1, 1, 1, 1, 1, 1, 1])] ⟨79, [(6, .v (.bool false)), (64, .v (.bool false)), (70, .v (.bool true)), (71, .v (.slice A25 ys1.length c25))], []⟩ (by kernel_rfl) ?_
              refine X.lit 72 22 1 1 [.slice A25 ys1.length c25] (by kernel_rfl) (fun g => by kernel_rfl) ?_
              intro A26
              refine X.run 0 [6, 64, 70, 72] [] (.ops (aA B8 [1, 1, 1, 1, 1, 1, 1, 0]) (oA B8 [1, 1, 1, 1, 1, 1, 1, 0] 11 :: lA B8 [1, 1, 1, 1, 1, 1, 1, 0] 12)) [.seq (cA B8 [1, 1, 1, 1, 1, 1, 1, 1])] ⟨79, [(6, .v (.bool false)), (64, .v (.bool false)), (70, .v (.bool true)), (72, .v (.slice A26 1 1))], []⟩ (by kernel_rfl) ?_
              refine X.capLe (i := 559) (q := ⟨5, 1, .slice A25 ys1.length c25, ys1.length, (filled ys1 q).map (Value.int .u8)⟩) (n := ys1.length) (c := c25) (A := A25) rfl rfl fun hn27 hx27 => ?_
              have hl27 : (filled ys1 q).length = ys1.length := by simp [filled]
              have hb27 : isBytes (filled ys1 q) := by unfold filled; exact bytes_set (bytes_set (bytes_set (bytes_set hbf25 (by omega)) (by omega)) (by rw [u8_wrap]; omega)) (by rw [u8_wrap]; omega)
              refine X.callV (f := 30) (l := [.v (.slice A26 1 1)]) (Q := fun v_ => v_ = .bool (cks (filled ys1 q) == 0)) [.slice A26 1 1] (by kernel_rfl) (by kernel_rfl) (by kernel_rfl) (fun G1_ hl_ hr_ => (Verify_ok _ _ [filled ys1 q] G1_ (rowLit (hr_ 72 _ rfl) ⟨_, _, rfl, (show (D.slice (D.int .u8)).rep G1_ (filled ys1 q) [.slice A25 ys1.length c25] by rw [← hl27]; exact rep_slice (by omega) hx27 (rowLit (hr_ 559 _ rfl) (reps_ints hb27) (by decide))), rfl⟩ (by decide)) (by simp) (by rw [List.flatten_cons, List.flatten_nil, List.append_nil]; have := wsum_le hb27 300 (by omega); omega)).mono (fun _ _ _ _ h_ => by rw [h_.1, List.flatten_cons, List.flatten_nil, List.append_nil])) ?_
              rintro _ rfl
              refine X.run 3 [6, 76] [] (.ops (aA B8 [1, 1, 1, 1, 1, 1, 1, 0]) (oA B8 [1, 1, 1, 1, 1, 1, 1, 0] 15 :: lA B8 [1, 1, 1, 1, 1, 1, 1, 0] 16)) [.seq (cA B8 [1, 1, 1, 1, 1, 1, 1, 1])] ⟨79, [(6, .v (.bool false)), (76, .v (.bool (cks (filled ys1 q) == 0)))], []⟩ (by kernel_rfl) ?_
              refine X.isTrue 76 rfl (by rw [cks_filled hbf25 hok25.1 hok25.2.1 hok25.2.2]; rfl) ?_
              refine X.callG (f := 31) (l := []) [] 0 (by kernel_rfl) (by kernel_rfl) (by kernel_rfl) (works10_ok _) ?_
              rintro v28 G28 rows28 hG28 ⟨rfl, rfl⟩
              replace hb := hb.mono hG28.le
              replace hr1 := hr1.mono hG28.le
              replace hr3 := hr3.mono hG28.le
              replace hr4 := hr4.mono hG28.le
              replace hr11 := hr11.mono hG28.le
              replace hr12 := hr12.mono hG28.le
              refine X.run 5 [6] [] (.ex .ret) [] ⟨79, [(6, .v (.bool true))], []⟩ (by kernel_rfl) ?_
              refine doneG (.inl rfl) [.bool true] [] (by kernel_rfl) rfl rfl ((hG25.trans hG28)) ?_
              -- end 3 (TT)
              exact ⟨rfl, rfl⟩
            · -- filled: False
              obtain ⟨rfl, rfl⟩ := ea25 hok25
              clear ea25 eb25
              refine X.run 24 [6, 76] [] (.ops (aA B8 [1, 1, 1, 1, 1, 1, 1, 0]) (oA B8 [1, 1, 1, 1, 1, 1, 1, 0] 15 :: lA B8 [1, 1, 1, 1, 1, 1, 1, 0] 16)) [.seq (cA B8 [1, 1, 1, 1, 1, 1, 1, 1])] ⟨79, [(6, .v (.bool false)), (76, .v (.bool true))], []⟩ (by kernel_rfl) ?_
              refine X.callG (f := 31) (l := []) [] 0 (by kernel_rfl) (by kernel_rfl) (by kernel_rfl) (works10_ok _) ?_
              rintro v29 G29 rows29 hG29 ⟨rfl, rfl⟩
              replace hb := hb.mono hG29.le
              replace hr1 := hr1.mono hG29.le
              replace hr3 := hr3.mono hG29.le
              replace hr4 := hr4.mono hG29.le
              replace hr11 := hr11.mono hG29.le
              replace hr12 := hr12.mono hG29.le
              refine X.run 5 [6] [] (.ex .ret) [] ⟨79, [(6, .v (.bool true))], []⟩ (by kernel_rfl) ?_
              refine doneG (.inl rfl) [.bool true] [] (by kernel_rfl) rfl rfl ((hG25.trans hG29)) ?_
              -- end 4 (TF)
              exact ⟨rfl, rfl⟩
        · -- 14 first
          refine X.lit 51 22 1 1 [.slice A1 ys1.length (c - 0)] (by kernel_rfl) (fun g => by kernel_rfl) ?_
          intro A30
          refine X.back ⟨trivial, Le.refl _, rfl, ?_⟩
          refine XD.norm [0, 2, 6, 41, 44, 47, 51] [] ⟨79, [(0, .v (.slice A1 ys1.length (c - 0))), (2, .v (.int .u8 q)), (6, .v (.bool false)), (41, .v (.bool true)), (44, .v (.slice A11 ys11.length ((c - 0) - (((min k ((ys1.length : Nat) : Int)) - ((min k ((ys1.length : Nat) : Int)) % 2)).toNat)))), (47, .v (.slice A12 ys12.length ((c - 0) - 0))), (51, .v (.slice A30 1 1))], []⟩ (by kernel_rfl) trivial ?_
          refine XD.one (i := 11) (l' := (lb 18 28671)) (oA B8 [1, 1, 1, 1, 1, 0, 0] 11) (by kernel_rfl) (by kernel_rfl) (by kernel_rfl) ?_
          refine X.lit 48 22 1 2 [.slice A11 ys11.length ((c - 0) - (((min k ((ys1.length : Nat) : Int)) - ((min k ((ys1.length : Nat) : Int)) % 2)).toNat)), .slice A12 ys12.length ((c - 0) - 0)] (by kernel_rfl) (fun g => by kernel_rfl) ?_
          intro A31
          refine X.back ⟨trivial, Le.refl _, rfl, ?_⟩
          refine XD.norm [0, 2, 6, 41, 48, 51] [] ⟨79, [(0, .v (.slice A1 ys1.length (c - 0))), (2, .v (.int .u8 q)), (6, .v (.bool false)), (41, .v (.bool true)), (48, .v (.slice A31 2 2)), (51, .v (.slice A30 1 1))], []⟩ (by kernel_rfl) trivial ?_
          refine XD.one (i := 12) (l' := (lb 18 32767)) (oA B8 [1, 1, 1, 1, 1, 0, 0] 12) (by kernel_rfl) (by kernel_rfl) (by kernel_rfl) ?_
          have hB32 : ∀ p_ ∈ ([ys11, ys12] : List (List Int)), isBytes p_ := by intro p_ hp_; simp only [List.mem_cons, List.not_mem_nil, or_false] at hp_; rcases hp_ with rfl | rfl; all_goals first | exact (fun _ h_ => absurd h_ (List.not_mem_nil)) | exact row_bytes hr11 | exact row_bytes hr12
          have hL32 : ([ys11, ys12] : List (List Int)).flatten.length ≤ 600 := by simp only [List.flatten_cons, List.flatten_nil, List.length_append, List.length_nil]; omega
          refine X.callV (f := 28) (l := [.v (.slice A31 2 2)]) (Q := fun v_ => v_ = .int .u16 (cks ([ys11, ys12]).flatten)) [.slice A31 2 2] (by kernel_rfl) (by kernel_rfl) (by kernel_rfl) (fun G1_ hl_ hr_ => (Sum_ok _ _ [ys11, ys12] G1_ (rowLit (hr_ 48 _ rfl) (⟨_, _, rfl, rep_slice hc11 hm11 (hr11.mono hl_), ⟨_, _, rfl, rep_slice hc12 hm12 (hr12.mono hl_), rfl⟩⟩) (by decide)) (by simp) (by have := wsum_le (bytes_flat hB32) 600 hL32; omega)).mono (fun _ _ _ _ h_ => h_.1)) ?_
          rintro _ rfl
          refine X.back ⟨trivial, Le.refl _, rfl, ?_⟩
          refine XD.norm [0, 2, 6, 41, 49, 51] [] ⟨79, [(0, .v (.slice A1 ys1.length (c - 0))), (2, .v (.int .u8 q)), (6, .v (.bool false)), (41, .v (.bool true)), (49, .v (.int .u16 (cks ([ys11, ys12]).flatten))), (51, .v (.slice A30 1 1))], []⟩ (by kernel_rfl) trivial ?_
          refine XD.one (i := 15) (l' := (lb 18 65535)) (oA B8 [1, 1, 1, 1, 1, 0, 0] 15) (by kernel_rfl) (by kernel_rfl) (by kernel_rfl) ?_
          have hB33 : ∀ p_ ∈ ([ys1] : List (List Int)), isBytes p_ := by intro p_ hp_; simp only [List.mem_cons, List.not_mem_nil, or_false] at hp_; rcases hp_ with rfl; all_goals first | exact (fun _ h_ => absurd h_ (List.not_mem_nil)) | exact row_bytes hr1
          have hL33 : ([ys1] : List (List Int)).flatten.length ≤ 600 := by simp only [List.flatten_cons, List.flatten_nil, List.length_append, List.length_nil]; omega
          refine X.callV (f := 28) (l := [.v (.slice A30 1 1)]) (Q := fun v_ => v_ = .int .u16 (cks ([ys1]).flatten)) [.slice A30 1 1] (by kernel_rfl) (by kernel_rfl) (by kernel_rfl) (fun G1_ hl_ hr_ => (Sum_ok _ _ [ys1] G1_ (rowLit (hr_ 51 _ rfl) (⟨_, _, rfl, rep_slice hc1 hm1 (hr1.mono hl_), rfl⟩) (by decide)) (by simp) (by have := wsum_le (bytes_flat hB33) 600 hL33; omega)).mono (fun _ _ _ _ h_ => h_.1)) ?_
          rintro _ rfl
          refine X.back ⟨trivial, Le.refl _, rfl, ?_⟩
          refine XD.take (i := 16) (l' := (lb 18 131071)) (oA B8 [1, 1, 1, 1, 1, 0, 0] 16) (.v (.bool ((cks ([ys11, ys12]).flatten) != (cks ([ys1]).flatten)))) QOk.ctxG (by kernel_rfl) (by kernel_rfl) (by kernel_rfl) (by kernel_rfl) (by kernel_rfl) ?_
          refine XD.take (i := 17) (l' := (lb 18 262143)) (oA B8 [1, 1, 1, 1, 1, 0, 0] 17) (.v (.bool ((cks ([ys11, ys12]).flatten) != (cks ([ys1]).flatten)))) QOk.ctxG (by kernel_rfl) (by kernel_rfl) (by kernel_rfl) (by kernel_rfl) (by kernel_rfl) ?_
          refine XD.done (by kernel_rfl) ?_
          refine X.run 1 [0, 2, 6, 54] [] (.code (cA B8 [1, 1, 1, 1, 1, 0, 1])) [.seq (cA B8 [1, 1, 1, 1, 1, 1])] ⟨79, [(0, .v (.slice A1 ys1.length (c - 0))), (2, .v (.int .u8 q)), (6, .v (.bool false)), (54, .v (.bool ((cks ([ys11, ys12]).flatten) != (cks ([ys1]).flatten))))], []⟩ (by kernel_rfl) ?_
          refine X.isFalse 54 rfl (by rw [← hys11, ← hys12, cks_swap (l := ys1) _ (by omega) (by omega) (by omega)]; simp) ?_
          refine X.run 8 [0, 6, 56, 58] [] (.ops (aA B8 [1, 1, 1, 1, 1, 1, 0]) (oA B8 [1, 1, 1, 1, 1, 1, 0] 3 :: lA B8 [1, 1, 1, 1, 1, 1, 0] 4)) [.seq (cA B8 [1, 1, 1, 1, 1, 1, 1])] ⟨79, [(0, .v (.slice A1 ys1.length (c - 0))), (6, .v (.bool false)), (56, .v (.slice A1 ys1.length (c - 0))), (58, .v (.int .i64 (IntKind.i64.wrap q)))], []⟩ (by kernel_rfl) ?_
          refine X.known 58 (y := .v (.int .i64 q)) rfl (congrArg (fun z_ => AV.v (.int .i64 z_)) (wi64 (by omega) (by omega))) ?_
          refine X.callG (f := 40) (l := [.v (.slice A1 ys1.length (c - 0)), .v (.int .i64 q)]) [.slice A1 ys1.length (c - 0), .int .i64 q] 559 (by kernel_rfl) (by kernel_rfl) (by kernel_rfl) (Fill_ok _ _ ys1 q _ hr1 hc1 (by omega) (by omega)) ?_
          rintro v34 G34 rows34 hG34 ⟨ea34, eb34⟩
          replace hb := hb.mono hG34.le
          replace hr1 := hr1.mono hG34.le
          replace hr3 := hr3.mono hG34.le
          replace hr4 := hr4.mono hG34.le
          replace hr11 := hr11.mono hG34.le
          replace hr12 := hr12.mono hG34.le
          by_cases hok34 : (0 ≤ q ∧ q % 2 = 0 ∧ q + 2 ≤ (ys1.length : Int))
          · -- filled: True
            obtain ⟨A34, c34, rfl, hc34, rfl⟩ := eb34 hok34
            clear ea34 eb34
            refine X.tellR [559] (R' := [(559, ⟨5, 1, .slice A34 ys1.length c34, ys1.length, (filled ys1 q).map (Value.int .u8)⟩)]) rfl ?_
            have hbf34 := row_bytes hr1
            refine X.run 18 [6, 9, 64, 70] [] (.ops (aA B8 [1, 1, 1, 1, 1, 1, 1, 0]) (oA B8 [1, 1, 1, 1, 1, 1, 1, 0] 9 :: lA B8 [1, 1, 1, 1, 1, 1, 1, 0] 10)) [.seq (cA B8 [1, 1, 1, 1, 1, 1, 1, 1])] ⟨79, [(6, .v (.bool false)), (9, .v (.slice A34 ys1.length c34)), (64, .v (.bool false)), (70, .v (.bool (((ys1.length : Nat) : Int) == ((ys1.length : Nat) : Int))))], []⟩ (by kernel_rfl) ?_
            refine X.isTrue 70 rfl (by simp) ?_
            refine X.run 1 [6, 64, 70, 71] [] (.ops (aA B8 [1, 1, 1, 1, 1, 1, 1, 0]) (oA B8 [1, 1, 1, 1, 1, 1, 1, 0] 10 :: lA B8 [1, 1, 1, 1, 1, 1, 1, 0] 11)) [.seq (cA B8 [1, 1, 1, 1, 1, 1, 1, 1])] ⟨79, [(6, .v (.bool false)), (64, .v (.bool false)), (70, .v (.bool true)), (71, .v (.slice A34 ys1.length c34))], []⟩ (by kernel_rfl) ?_
            refine X.lit 72 22 1 1 [.slice A34 ys1.length c34] (by kernel_rfl) (fun g => by kernel_rfl) ?_
            intro A35
            refine X.run 0 [6, 64, 70, 72] [] (.ops (aA B8 [1, 1, 1, 1, 1, 1, 1, 0]) (oA B8 [1, 1, 1, 1, 1, 1, 1, 0] 11 :: lA B8 [1, 1, 1, 1, 1, 1, 1, 0] 12)) [.seq (cA B8 [1, 1, 1, 1, 1, 1, 1, 1])] ⟨79, [(6, .v (.bool false)), (64, .v (.bool false)), (70, .v (.bool true)), (72, .v (.slice A35 1 1))], []⟩ (by kernel_rfl) ?_
            refine X.capLe (i := 559) (q := ⟨5, 1, .slice A34 ys1.length c34, ys1.length, (filled ys1 q).map (Value.int .u8)⟩) (n := ys1.length) (c := c34) (A := A34) rfl rfl fun hn36 hx36 => ?_
            have hl36 : (filled ys1 q).length = ys1.length := by simp [filled]
            have hb36 : isBytes (filled ys1 q) := by unfold filled; exact bytes_set (bytes_set (bytes_set (bytes_set hbf34 (by omega)) (by omega)) (by rw [u8_wrap]; omega)) (by rw [u8_wrap]; omega)
            refine X.callV (f := 30) (l := [.v (.slice A35 1 1)]) (Q := fun v_ => v_ = .bool (cks (filled ys1 q) == 0)) [.slice A35 1 1] (by kernel_rfl) (by kernel_rfl) (by kernel_rfl) (fun G1_ hl_ hr_ => (Verify_ok _ _ [filled ys1 q] G1_ (rowLit (hr_ 72 _ rfl) ⟨_, _, rfl, (show (D.slice (D.int .u8)).rep G1_ (filled ys1 q) [.slice A34 ys1.length c34] by rw [← hl36]; exact rep_slice (by omega) hx36 (rowLit (hr_ 559 _ rfl) (reps_ints hb36) (by decide))), rfl⟩ (by decide)) (by simp) (by rw [List.flatten_cons, List.flatten_nil, List.append_nil]; have := wsum_le hb36 300 (by omega); omega)).mono (fun _ _ _ _ h_ => by rw [h_.1, List.flatten_cons, List.flatten_nil, List.append_nil])) ?_
            rintro _ rfl
            refine X.run 3 [6, 76] [] (.ops (aA B8 [1, 1, 1, 1, 1, 1, 1, 0]) (oA B8 [1, 1, 1, 1, 1, 1, 1, 0] 15 :: lA B8 [1, 1, 1, 1, 1, 1, 1, 0] 16)) [.seq (cA B8 [1, 1, 1, 1, 1, 1, 1, 1])] ⟨79, [(6, .v (.bool false)), (76, .v (.bool (cks (filled ys1 q) == 0)))], []⟩ (by kernel_rfl) ?_
            refine X.isTrue 76 rfl (by rw [cks_filled hbf34 hok34.1 hok34.2.1 hok34.2.2]; rfl) ?_
            refine X.callG (f := 31) (l := []) [] 0 (by kernel_rfl) (by kernel_rfl) (by kernel_rfl) (works10_ok _) ?_
            rintro v37 G37 rows37 hG37 ⟨rfl, rfl⟩
            replace hb := hb.mono hG37.le
            replace hr1 := hr1.mono hG37.le
            replace hr3 := hr3.mono hG37.le
            replace hr4 := hr4.mono hG37.le
            replace hr11 := hr11.mono hG37.le
            replace hr12 := hr12.mono hG37.le
            refine X.run 5 [6] [] (.ex .ret) [] ⟨79, [(6, .v (.bool true))], []⟩ (by kernel_rfl) ?_
            refine doneG (.inl rfl) [.bool true] [] (by kernel_rfl) rfl rfl ((hG34.trans hG37)) ?_
            -- end 5 (TT)
            exact ⟨rfl, rfl⟩
          · -- filled: False
            obtain ⟨rfl, rfl⟩ := ea34 hok34
            clear ea34 eb34
            refine X.run 24 [6, 76] [] (.ops (aA B8 [1, 1, 1, 1, 1, 1, 1, 0]) (oA B8 [1, 1, 1, 1, 1, 1, 1, 0] 15 :: lA B8 [1, 1, 1, 1, 1, 1, 1, 0] 16)) [.seq (cA B8 [1, 1, 1, 1, 1, 1, 1, 1])] ⟨79, [(6, .v (.bool false)), (76, .v (.bool true))], []⟩ (by kernel_rfl) ?_
            refine X.callG (f := 31) (l := []) [] 0 (by kernel_rfl) (by kernel_rfl) (by kernel_rfl) (works10_ok _) ?_
            rintro v38 G38 rows38 hG38 ⟨rfl, rfl⟩
            replace hb := hb.mono hG38.le
            replace hr1 := hr1.mono hG38.le
            replace hr3 := hr3.mono hG38.le
            replace hr4 := hr4.mono hG38.le
            replace hr11 := hr11.mono hG38.le
            replace hr12 := hr12.mono hG38.le
            refine X.run 5 [6] [] (.ex .ret) [] ⟨79, [(6, .v (.bool true))], []⟩ (by kernel_rfl) ?_
            refine doneG (.inl rfl) [.bool true] [] (by kernel_rfl) rfl rfl ((hG34.trans hG38)) ?_
            -- end 6 (TF)
            exact ⟨rfl, rfl⟩
      · -- slot 41: (Int.tmod ((ys1.length : Nat) : Int) 2) == 0 is False
        replace h10 : (Int.tmod ((ys1.length : Nat) : Int) 2) ≠ 0 := by simpa using h10
        have htm_ : Int.tmod ((ys1.length : Nat) : Int) 2 = ((ys1.length : Nat) : Int) % 2 := Int.tmod_eq_emod_of_nonneg (by omega)
        refine XD.off (i := 5) (l' := (lb 18 63)) (oA B8 [1, 1, 1, 1, 1, 0, 0] 5) QOk.ctxG (by kernel_rfl) (by kernel_rfl) (by kernel_rfl) (by kernel_rfl) ?_
        refine XD.off (i := 6) (l' := (lb 18 127)) (oA B8 [1, 1, 1, 1, 1, 0, 0] 6) QOk.ctxG (by kernel_rfl) (by kernel_rfl) (by kernel_rfl) (by kernel_rfl) ?_
        refine XD.off (i := 7) (l' := (lb 18 255)) (oA B8 [1, 1, 1, 1, 1, 0, 0] 7) QOk.ctxG (by kernel_rfl) (by kernel_rfl) (by kernel_rfl) (by kernel_rfl) ?_
        refine XD.off (i := 8) (l' := (lb 18 511)) (oA B8 [1, 1, 1, 1, 1, 0, 0] 8) QOk.ctxG (by kernel_rfl) (by kernel_rfl) (by kernel_rfl) (by kernel_rfl) ?_
        refine XD.off (i := 9) (l' := (lb 18 1023)) (oA B8 [1, 1, 1, 1, 1, 0, 0] 9) QOk.ctxG (by kernel_rfl) (by kernel_rfl) (by kernel_rfl) (by kernel_rfl) ?_
        refine XD.off (i := 10) (l' := (lb 18 2047)) (oA B8 [1, 1, 1, 1, 1, 0, 0] 10) QOk.ctxG (by kernel_rfl) (by kernel_rfl) (by kernel_rfl) (by kernel_rfl) ?_
        refine XD.off (i := 11) (l' := (lb 18 4095)) (oA B8 [1, 1, 1, 1, 1, 0, 0] 11) QOk.ctxG (by kernel_rfl) (by kernel_rfl) (by kernel_rfl) (by kernel_rfl) ?_
        refine XD.off (i := 12) (l' := (lb 18 8191)) (oA B8 [1, 1, 1, 1, 1, 0, 0] 12) QOk.ctxG (by kernel_rfl) (by kernel_rfl) (by kernel_rfl) (by kernel_rfl) ?_
        refine XD.off (i := 13) (l' := (lb 18 16383)) (oA B8 [1, 1, 1, 1, 1, 0, 0] 13) QOk.ctxG (by kernel_rfl) (by kernel_rfl) (by kernel_rfl) (by kernel_rfl) ?_
        refine XD.off (i := 14) (l' := (lb 18 32767)) (oA B8 [1, 1, 1, 1, 1, 0, 0] 14) QOk.ctxG (by kernel_rfl) (by kernel_rfl) (by kernel_rfl) (by kernel_rfl) ?_
        refine XD.off (i := 15) (l' := (lb 18 65535)) (oA B8 [1, 1, 1, 1, 1, 0, 0] 15) QOk.ctxG (by kernel_rfl) (by kernel_rfl) (by kernel_rfl) (by kernel_rfl) ?_
        refine XD.off (i := 16) (l' := (lb 18 131071)) (oA B8 [1, 1, 1, 1, 1, 0, 0] 16) QOk.ctxG (by kernel_rfl) (by kernel_rfl) (by kernel_rfl) (by kernel_rfl) ?_
        refine XD.take (i := 17) (l' := (lb 18 262143)) (oA B8 [1, 1, 1, 1, 1, 0, 0] 17) (.v (.bool false)) QOk.ctxG (by kernel_rfl) (by kernel_rfl) (by kernel_rfl) (by kernel_rfl) (by kernel_rfl) ?_
        refine XD.done (by kernel_rfl) ?_
        refine X.run 9 [0, 6, 56, 58] [] (.ops (aA B8 [1, 1, 1, 1, 1, 1, 0]) (oA B8 [1, 1, 1, 1, 1, 1, 0] 3 :: lA B8 [1, 1, 1, 1, 1, 1, 0] 4)) [.seq (cA B8 [1, 1, 1, 1, 1, 1, 1])] ⟨79, [(0, .v (.slice A1 ys1.length (c - 0))), (6, .v (.bool false)), (56, .v (.slice A1 ys1.length (c - 0))), (58, .v (.int .i64 (IntKind.i64.wrap q)))], []⟩ (by kernel_rfl) ?_
        refine X.known 58 (y := .v (.int .i64 q)) rfl (congrArg (fun z_ => AV.v (.int .i64 z_)) (wi64 (by omega) (by omega))) ?_
        refine X.callG (f := 40) (l := [.v (.slice A1 ys1.length (c - 0)), .v (.int .i64 q)]) [.slice A1 ys1.length (c - 0), .int .i64 q] 559 (by kernel_rfl) (by kernel_rfl) (by kernel_rfl) (Fill_ok _ _ ys1 q _ hr1 hc1 (by omega) (by omega)) ?_
        rintro v39 G39 rows39 hG39 ⟨ea39, eb39⟩
        replace hb := hb.mono hG39.le
        replace hr1 := hr1.mono hG39.le
        replace hr3 := hr3.mono hG39.le
        replace hr4 := hr4.mono hG39.le
        by_cases hok39 : (0 ≤ q ∧ q % 2 = 0 ∧ q + 2 ≤ (ys1.length : Int))
        · -- filled: True
          obtain ⟨A39, c39, rfl, hc39, rfl⟩ := eb39 hok39
          clear ea39 eb39
          refine X.tellR [559] (R' := [(559, ⟨5, 1, .slice A39 ys1.length c39, ys1.length, (filled ys1 q).map (Value.int .u8)⟩)]) rfl ?_
          have hbf39 := row_bytes hr1
          refine X.run 18 [6, 9, 64, 70] [] (.ops (aA B8 [1, 1, 1, 1, 1, 1, 1, 0]) (oA B8 [1, 1, 1, 1, 1, 1, 1, 0] 9 :: lA B8 [1, 1, 1, 1, 1, 1, 1, 0] 10)) [.seq (cA B8 [1, 1, 1, 1, 1, 1, 1, 1])] ⟨79, [(6, .v (.bool false)), (9, .v (.slice A39 ys1.length c39)), (64, .v (.bool false)), (70, .v (.bool (((ys1.length : Nat) : Int) == ((ys1.length : Nat) : Int))))], []⟩ (by kernel_rfl) ?_
          refine X.isTrue 70 rfl (by simp) ?_
          refine X.run 1 [6, 64, 70, 71] [] (.ops (aA B8 [1, 1, 1, 1, 1, 1, 1, 0]) (oA B8 [1, 1, 1, 1, 1, 1, 1, 0] 10 :: lA B8 [1, 1, 1, 1, 1, 1, 1, 0] 11)) [.seq (cA B8 [1, 1, 1, 1, 1, 1, 1, 1])] ⟨79, [(6, .v (.bool false)), (64, .v (.bool false)), (70, .v (.bool true)), (71, .v (.slice A39 ys1.length c39))], []⟩ (by kernel_rfl) ?_
          refine X.lit 72 22 1 1 [.slice A39 ys1.length c39] (by kernel_rfl) (fun g => by kernel_rfl) ?_
          intro A40
          refine X.run 0 [6, 64, 70, 72] [] (.ops (aA B8 [1, 1, 1, 1, 1, 1, 1, 0]) (oA B8 [1, 1, 1, 1, 1, 1, 1, 0] 11 :: lA B8 [1, 1, 1, 1, 1, 1, 1, 0] 12)) [.seq (cA B8 [1, 1, 1, 1, 1, 1, 1, 1])] ⟨79, [(6, .v (.bool false)), (64, .v (.bool false)), (70, .v (.bool true)), (72, .v (.slice A40 1 1))], []⟩ (by kernel_rfl) ?_
          refine X.capLe (i := 559) (q := ⟨5, 1, .slice A39 ys1.length c39, ys1.length, (filled ys1 q).map (Value.int .u8)⟩) (n := ys1.length) (c := c39) (A := A39) rfl rfl fun hn41 hx41 => ?_
          have hl41 : (filled ys1 q).length = ys1.length := by simp [filled]
          have hb41 : isBytes (filled ys1 q) := by unfold filled; exact bytes_set (bytes_set (bytes_set (bytes_set hbf39 (by omega)) (by omega)) (by rw [u8_wrap]; omega)) (by rw [u8_wrap]; omega)
          refine X.callV (f := 30) (l := [.v (.slice A40 1 1)]) (Q := fun v_ => v_ = .bool (cks (filled ys1 q) == 0)) [.slice A40 1 1] (by kernel_rfl) (by kernel_rfl) (by kernel_rfl) (fun G1_ hl_ hr_ => (Verify_ok _ _ [filled ys1 q] G1_ (rowLit (hr_ 72 _ rfl) ⟨_, _, rfl, (show (D.slice (D.int .u8)).rep G1_ (filled ys1 q) [.slice A39 ys1.length c39] by rw [← hl41]; exact rep_slice (by omega) hx41 (rowLit (hr_ 559 _ rfl) (reps_ints hb41) (by decide))), rfl⟩ (by decide)) (by simp) (by rw [List.flatten_cons, List.flatten_nil, List.append_nil]; have := wsum_le hb41 300 (by omega); omega)).mono (fun _ _ _ _ h_ => by rw [h_.1, List.flatten_cons, List.flatten_nil, List.append_nil])) ?_
          rintro _ rfl
          refine X.run 3 [6, 76] [] (.ops (aA B8 [1, 1, 1, 1, 1, 1, 1, 0]) (oA B8 [1, 1, 1, 1, 1, 1, 1, 0] 15 :: lA B8 [1, 1, 1, 1, 1, 1, 1, 0] 16)) [.seq (cA B8 [1, 1, 1, 1, 1, 1, 1, 1])] ⟨79, [(6, .v (.bool false)), (76, .v (.bool (cks (filled ys1 q) == 0)))], []⟩ (by kernel_rfl) ?_
          refine X.isTrue 76 rfl (by rw [cks_filled hbf39 hok39.1 hok39.2.1 hok39.2.2]; rfl) ?_
          refine X.callG (f := 31) (l := []) [] 0 (by kernel_rfl) (by kernel_rfl) (by kernel_rfl) (works10_ok _) ?_
          rintro v42 G42 rows42 hG42 ⟨rfl, rfl⟩
          replace hb := hb.mono hG42.le
          replace hr1 := hr1.mono hG42.le
          replace hr3 := hr3.mono hG42.le
          replace hr4 := hr4.mono hG42.le
          refine X.run 5 [6] [] (.ex .ret) [] ⟨79, [(6, .v (.bool true))], []⟩ (by kernel_rfl) ?_
          refine doneG (.inl rfl) [.bool true] [] (by kernel_rfl) rfl rfl ((hG39.trans hG42)) ?_
          -- end 7 (FT)
          exact ⟨rfl, rfl⟩
        · -- filled: False
          obtain ⟨rfl, rfl⟩ := ea39 hok39
          clear ea39 eb39
          refine X.run 24 [6, 76] [] (.ops (aA B8 [1, 1, 1, 1, 1, 1, 1, 0]) (oA B8 [1, 1, 1, 1, 1, 1, 1, 0] 15 :: lA B8 [1, 1, 1, 1, 1, 1, 1, 0] 16)) [.seq (cA B8 [1, 1, 1, 1, 1, 1, 1, 1])] ⟨79, [(6, .v (.bool false)), (76, .v (.bool true))], []⟩ (by kernel_rfl) ?_
          refine X.callG (f := 31) (l := []) [] 0 (by kernel_rfl) (by kernel_rfl) (by kernel_rfl) (works10_ok _) ?_
          rintro v43 G43 rows43 hG43 ⟨rfl, rfl⟩
          replace hb := hb.mono hG43.le
          replace hr1 := hr1.mono hG43.le
          replace hr3 := hr3.mono hG43.le
          replace hr4 := hr4.mono hG43.le
          refine X.run 5 [6] [] (.ex .ret) [] ⟨79, [(6, .v (.bool true))], []⟩ (by kernel_rfl) ?_
          refine doneG (.inl rfl) [.bool true] [] (by kernel_rfl) rfl rfl ((hG39.trans hG43)) ?_
          -- end 8 (FF)
          exact ⟨rfl, rfl⟩
    · -- 9 first
      refine X.lit 30 22 1 1 [.slice A1 ys1.length (c - 0)] (by kernel_rfl) (fun g => by kernel_rfl) ?_
      intro A44
      refine X.back ⟨trivial, Le.refl _, rfl, ?_⟩
      refine XD.norm [0, 2, 6, 7, 27, 30] [] ⟨79, [(0, .v (.slice A1 ys1.length (c - 0))), (2, .v (.int .u8 q)), (6, .v (.bool false)), (7, .v (.int .i64 (min k ((ys1.length : Nat) : Int)))), (27, .v (.slice A5 3 3)), (30, .v (.slice A44 1 1))], []⟩ (by kernel_rfl) trivial ?_
      refine XD.one (i := 7) (l' := (lb 12 1023)) (oA B8 [1, 1, 1, 0, 0] 7) (by kernel_rfl) (by kernel_rfl) (by kernel_rfl) ?_
      have hB45 : ∀ p_ ∈ ([ys3, [], ys4] : List (List Int)), isBytes p_ := by intro p_ hp_; simp only [List.mem_cons, List.not_mem_nil, or_false] at hp_; rcases hp_ with rfl | rfl | rfl; all_goals first | exact (fun _ h_ => absurd h_ (List.not_mem_nil)) | exact row_bytes hr3 | exact row_bytes hr4
      have hL45 : ([ys3, [], ys4] : List (List Int)).flatten.length ≤ 600 := by simp only [List.flatten_cons, List.flatten_nil, List.length_append, List.length_nil]; omega
      refine X.callV (f := 28) (l := [.v (.slice A5 3 3)]) (Q := fun v_ => v_ = .int .u16 (cks ([ys3, [], ys4]).flatten)) [.slice A5 3 3] (by kernel_rfl) (by kernel_rfl) (by kernel_rfl) (fun G1_ hl_ hr_ => (Sum_ok _ _ [ys3, [], ys4] G1_ (rowLit (hr_ 27 _ rfl) (⟨_, _, rfl, rep_slice hc3 hm3 (hr3.mono hl_), ⟨_, _, rfl, ⟨none, 0, rfl, Nat.le_refl _, Nat.zero_le _, rowAt.nil _ _ _⟩, ⟨_, _, rfl, rep_slice hc4 hm4 (hr4.mono hl_), rfl⟩⟩⟩) (by decide)) (by simp) (by have := wsum_le (bytes_flat hB45) 600 hL45; omega)).mono (fun _ _ _ _ h_ => h_.1)) ?_
      rintro _ rfl
      refine X.back ⟨trivial, Le.refl _, rfl, ?_⟩
      refine XD.norm [0, 2, 6, 7, 28, 30] [] ⟨79, [(0, .v (.slice A1 ys1.length (c - 0))), (2, .v (.int .u8 q)), (6, .v (.bool false)), (7, .v (.int .i64 (min k ((ys1.length : Nat) : Int)))), (28, .v (.int .u16 (cks ([ys3, [], ys4]).flatten))), (30, .v (.slice A44 1 1))], []⟩ (by kernel_rfl) trivial ?_
      refine XD.one (i := 10) (l' := (lb 12 2047)) (oA B8 [1, 1, 1, 0, 0] 10) (by kernel_rfl) (by kernel_rfl) (by kernel_rfl) ?_
      have hB46 : ∀ p_ ∈ ([ys1] : List (List Int)), isBytes p_ := by intro p_ hp_; simp only [List.mem_cons, List.not_mem_nil, or_false] at hp_; rcases hp_ with rfl; all_goals first | exact (fun _ h_ => absurd h_ (List.not_mem_nil)) | exact row_bytes hr1
      have hL46 : ([ys1] : List (List Int)).flatten.length ≤ 600 := by simp only [List.flatten_cons, List.flatten_nil, List.length_append, List.length_nil]; omega
      refine X.callV (f := 28) (l := [.v (.slice A44 1 1)]) (Q := fun v_ => v_ = .int .u16 (cks ([ys1]).flatten)) [.slice A44 1 1] (by kernel_rfl) (by kernel_rfl) (by kernel_rfl) (fun G1_ hl_ hr_ => (Sum_ok _ _ [ys1] G1_ (rowLit (hr_ 30 _ rfl) (⟨_, _, rfl, rep_slice hc1 hm1 (hr1.mono hl_), rfl⟩) (by decide)) (by simp) (by have := wsum_le (bytes_flat hB46) 600 hL46; omega)).mono (fun _ _ _ _ h_ => h_.1)) ?_
      rintro _ rfl
      refine X.back ⟨trivial, Le.refl _, rfl, ?_⟩
      refine XD.take (i := 11) (l' := (lb 12 4095)) (oA B8 [1, 1, 1, 0, 0] 11) (.v (.bool ((cks ([ys3, [], ys4]).flatten) != (cks ([ys1]).flatten)))) QOk.ctxG (by kernel_rfl) (by kernel_rfl) (by kernel_rfl) (by kernel_rfl) (by kernel_rfl) ?_
      refine XD.done (by kernel_rfl) ?_
      refine X.run 1 [0, 2, 6, 7, 32] [] (.code (cA B8 [1, 1, 1, 0, 1])) [.seq (cA B8 [1, 1, 1, 1])] ⟨79, [(0, .v (.slice A1 ys1.length (c - 0))), (2, .v (.int .u8 q)), (6, .v (.bool false)), (7, .v (.int .i64 (min k ((ys1.length : Nat) : Int)))), (32, .v (.bool ((cks ([ys3, [], ys4]).flatten) != (cks ([ys1]).flatten))))], []⟩ (by kernel_rfl) ?_
      refine X.isFalse 32 rfl (by rw [← hys3, ← hys4, cks_parts (l := ys1) _ (by omega)]; simp) ?_
      refine X.run 8 [0, 2, 6, 33, 35] [] (.ops (aA B8 [1, 1, 1, 1, 0]) (oA B8 [1, 1, 1, 1, 0] 3 :: lA B8 [1, 1, 1, 1, 0] 4)) [.seq (cA B8 [1, 1, 1, 1, 1])] ⟨79, [(0, .v (.slice A1 ys1.length (c - 0))), (2, .v (.int .u8 q)), (6, .v (.bool false)), (33, .v (.int .i64 (min k ((ys1.length : Nat) : Int)))), (35, .v (.int .i64 (Int.tmod (min k ((ys1.length : Nat) : Int)) 2)))], []⟩ (by kernel_rfl) ?_
      refine X.known 35 (y := .v (.int .i64 ((min k ((ys1.length : Nat) : Int)) % 2))) rfl (congrArg (fun z_ => AV.v (.int .i64 z_)) (Int.tmod_eq_emod_of_nonneg (by omega))) ?_
      refine X.run 1 [0, 2, 6, 36] [] (.ops (aA B8 [1, 1, 1, 1, 0]) (oA B8 [1, 1, 1, 1, 0] 4 :: lA B8 [1, 1, 1, 1, 0] 5)) [.seq (cA B8 [1, 1, 1, 1, 1])] ⟨79, [(0, .v (.slice A1 ys1.length (c - 0))), (2, .v (.int .u8 q)), (6, .v (.bool false)), (36, .v (.int .i64 (IntKind.i64.wrap ((min k ((ys1.length : Nat) : Int)) - ((min k ((ys1.length : Nat) : Int)) % 2)))))], []⟩ (by kernel_rfl) ?_
      refine X.known 36 (y := .v (.int .i64 ((min k ((ys1.length : Nat) : Int)) - ((min k ((ys1.length : Nat) : Int)) % 2)))) rfl (congrArg (fun z_ => AV.v (.int .i64 z_)) (wi64 (by omega) (by omega))) ?_
      refine X.run 5 [0, 2, 6, 8] [] (.code (cA B8 [1, 1, 1, 1, 1, 0, 0])) [.seq (cA B8 [1, 1, 1, 1, 1, 0, 1]), .seq (cA B8 [1, 1, 1, 1, 1, 1])] ⟨79, [(0, .v (.slice A1 ys1.length (c - 0))), (2, .v (.int .u8 q)), (6, .v (.bool false)), (8, .v (.int .i64 ((min k ((ys1.length : Nat) : Int)) - ((min k ((ys1.length : Nat) : Int)) % 2))))], []⟩ (by kernel_rfl) ?_
      have hb_d47 := hb
      have hr1_d47 := hr1
      have hr3_d47 := hr3
      have hr4_d47 := hr4
      refine XD.open (id := 6) (arr := aA B8 [1, 1, 1, 1, 1, 0, 0]) 18 [] [] [] (by kernel_rfl) (by kernel_rfl) (by kernel_rfl) (by kernel_rfl) (by kernel_rfl) trivial (by simp) rfl (fun ρ0 => ?_)
      refine XD.take (i := 0) (l' := (lb 18 1)) (oA B8 [1, 1, 1, 1, 1, 0, 0] 0) (.v (.slice A1 ys1.length (c - 0))) QOk.ctxG (by kernel_rfl) (by kernel_rfl) (by kernel_rfl) (by kernel_rfl) (by kernel_rfl) ?_
      refine XD.take (i := 1) (l' := (lb 18 3)) (oA B8 [1, 1, 1, 1, 1, 0, 0] 1) (.v (.int .i64 ((ys1.length : Nat) : Int))) QOk.ctxG (by kernel_rfl) (by kernel_rfl) (by kernel_rfl) (by kernel_rfl) (by kernel_rfl) ?_
      refine XD.take (i := 2) (l' := (lb 18 7)) (oA B8 [1, 1, 1, 1, 1, 0, 0] 2) (.v (.int .i64 (Int.tmod ((ys1.length : Nat) : Int) 2))) QOk.ctxG (by kernel_rfl) (by kernel_rfl) (by kernel_rfl) (by kernel_rfl) (by kernel_rfl) ?_
      refine XD.take (i := 3) (l' := (lb 18 15)) (oA B8 [1, 1, 1, 1, 1, 0, 0] 3) (.v (.bool ((Int.tmod ((ys1.length : Nat) : Int) 2) == 0))) QOk.ctxG (by kernel_rfl) (by kernel_rfl) (by kernel_rfl) (by kernel_rfl) (by kernel_rfl) ?_
      refine XD.take (i := 4) (l' := (lb 18 31)) (oA B8 [1, 1, 1, 1, 1, 0, 0] 4) (.v (.bool ((Int.tmod ((ys1.length : Nat) : Int) 2) == 0))) QOk.ctxG (by kernel_rfl) (by kernel_rfl) (by kernel_rfl) (by kernel_rfl) (by kernel_rfl) ?_
      refine XD.split 41 rfl (fun h48 => ?_) (fun h48 => ?_)
      · -- slot 41: (Int.tmod ((ys1.length : Nat) : Int) 2) == 0 is True
        replace h48 : (Int.tmod ((ys1.length : Nat) : Int) 2) = 0 := by simpa using h48
        have htm_ : Int.tmod ((ys1.length : Nat) : Int) 2 = ((ys1.length : Nat) : Int) % 2 := Int.tmod_eq_emod_of_nonneg (by omega)
        refine XD.take (i := 5) (l' := (lb 18 63)) (oA B8 [1, 1, 1, 1, 1, 0, 0] 5) (.v (.slice A1 ys1.length (c - 0))) QOk.ctxG (by kernel_rfl) (by kernel_rfl) (by kernel_rfl) (by kernel_rfl) (by kernel_rfl) ?_
        refine XD.take (i := 6) (l' := (lb 18 127)) (oA B8 [1, 1, 1, 1, 1, 0, 0] 6) (.v (.int .i64 ((min k ((ys1.length : Nat) : Int)) - ((min k ((ys1.length : Nat) : Int)) % 2)))) QOk.ctxG (by kernel_rfl) (by kernel_rfl) (by kernel_rfl) (by kernel_rfl) (by kernel_rfl) ?_
        have hlo49 : ((min k ((ys1.length : Nat) : Int)) - ((min k ((ys1.length : Nat) : Int)) % 2)).toNat ≤ ys1.length := by omega
        have hhi49 : ys1.length ≤ ys1.length := by omega
        refine XD.cut (i := 7) (l' := (lb 18 255)) (o := (oA B8 [1, 1, 1, 1, 1, 0, 0] 7)) (t := 22) (e := 5) (sz := 1) (n := ys1.length) (c := c - 0) (A := A1) (x := .tmp 42) (l0 := (some (.tmp 43))) (h := none) (lv := (some (.int .i64 ((min k ((ys1.length : Nat) : Int)) - ((min k ((ys1.length : Nat) : Int)) % 2))))) (hv := none) (((min k ((ys1.length : Nat) : Int)) - ((min k ((ys1.length : Nat) : Int)) % 2)).toNat) ys1.length QOk.ctxG (by kernel_rfl) (by kernel_rfl) (by kernel_rfl) (by kernel_rfl) (by kernel_rfl) (by kernel_rfl) (by kernel_rfl) (by kernel_rfl) (by kernel_rfl) (⟨_, _, rfl, by omega, rfl⟩) (rfl) hlo49 (Nat.le_trans hhi49 hc1) (by kernel_rfl) ?_
        obtain ⟨A49, hA49⟩ : ∃ A_, cutA A1 (c - 0) (((min k ((ys1.length : Nat) : Int)) - ((min k ((ys1.length : Nat) : Int)) % 2)).toNat) 1 = A_ := ⟨_, rfl⟩
        obtain ⟨ys49, hys49⟩ : ∃ l_, (ys1.take ys1.length).drop (((min k ((ys1.length : Nat) : Int)) - ((min k ((ys1.length : Nat) : Int)) % 2)).toNat) = l_ := ⟨_, rfl⟩
        have hr49 : rowAt (D.int .u8) G (cutA A1 (c - 0) (((min k ((ys1.length : Nat) : Int)) - ((min k ((ys1.length : Nat) : Int)) % 2)).toNat) 1) ((ys1.take ys1.length).drop (((min k ((ys1.length : Nat) : Int)) - ((min k ((ys1.length : Nat) : Int)) % 2)).toNat)) := rowAt_cut hr1 hlo49 hhi49 hc1
        have hl49 : ys1.length - (((min k ((ys1.length : Nat) : Int)) - ((min k ((ys1.length : Nat) : Int)) % 2)).toNat) = ys49.length := by rw [← hys49, List.length_drop, List.length_take]; omega
        have hc49 : ys49.length ≤ (c - 0) - (((min k ((ys1.length : Nat) : Int)) - ((min k ((ys1.length : Nat) : Int)) % 2)).toNat) := by omega
        have hm49 : (c - 0) - (((min k ((ys1.length : Nat) : Int)) - ((min k ((ys1.length : Nat) : Int)) % 2)).toNat) ≤ maxLen := Nat.le_trans (Nat.sub_le _ _) hm1
        rw [hys49, show cutA A1 (c - 0) (((min k ((ys1.length : Nat) : Int)) - ((min k ((ys1.length : Nat) : Int)) % 2)).toNat) _ = A49 from hA49] at hr49
        rw [hA49, hl49]
        refine XD.take (i := 8) (l' := (lb 18 511)) (oA B8 [1, 1, 1, 1, 1, 0, 0] 8) (.v (.slice A1 ys1.length (c - 0))) QOk.ctxG (by kernel_rfl) (by kernel_rfl) (by kernel_rfl) (by kernel_rfl) (by kernel_rfl) ?_
        refine XD.take (i := 9) (l' := (lb 18 1023)) (oA B8 [1, 1, 1, 1, 1, 0, 0] 9) (.v (.int .i64 ((min k ((ys1.length : Nat) : Int)) - ((min k ((ys1.length : Nat) : Int)) % 2)))) QOk.ctxG (by kernel_rfl) (by kernel_rfl) (by kernel_rfl) (by kernel_rfl) (by kernel_rfl) ?_
        have hlo50 : 0 ≤ ((min k ((ys1.length : Nat) : Int)) - ((min k ((ys1.length : Nat) : Int)) % 2)).toNat := by omega
        have hhi50 : ((min k ((ys1.length : Nat) : Int)) - ((min k ((ys1.length : Nat) : Int)) % 2)).toNat ≤ ys1.length := by omega
        refine XD.cut (i := 10) (l' := (lb 18 2047)) (o := (oA B8 [1, 1, 1, 1, 1, 0, 0] 10)) (t := 22) (e := 5) (sz := 1) (n := ys1.length) (c := c - 0) (A := A1) (x := .tmp 45) (l0 := none) (h := (some (.tmp 46))) (lv := none) (hv := (some (.int .i64 ((min k ((ys1.length : Nat) : Int)) - ((min k ((ys1.length : Nat) : Int)) % 2))))) 0 (((min k ((ys1.length : Nat) : Int)) - ((min k ((ys1.length : Nat) : Int)) % 2)).toNat) QOk.ctxG (by kernel_rfl) (by kernel_rfl) (by kernel_rfl) (by kernel_rfl) (by kernel_rfl) (by kernel_rfl) (by kernel_rfl) (by kernel_rfl) (by kernel_rfl) (rfl) (⟨_, _, rfl, by omega, rfl⟩) hlo50 (Nat.le_trans hhi50 hc1) (by kernel_rfl) ?_
        obtain ⟨A50, hA50⟩ : ∃ A_, cutA A1 (c - 0) 0 1 = A_ := ⟨_, rfl⟩
        obtain ⟨ys50, hys50⟩ : ∃ l_, (ys1.take (((min k ((ys1.length : Nat) : Int)) - ((min k ((ys1.length : Nat) : Int)) % 2)).toNat)).drop 0 = l_ := ⟨_, rfl⟩
        have hr50 : rowAt (D.int .u8) G (cutA A1 (c - 0) 0 1) ((ys1.take (((min k ((ys1.length : Nat) : Int)) - ((min k ((ys1.length : Nat) : Int)) % 2)).toNat)).drop 0) := rowAt_cut hr1 hlo50 hhi50 hc1
        have hl50 : (((min k ((ys1.length : Nat) : Int)) - ((min k ((ys1.length : Nat) : Int)) % 2)).toNat) - 0 = ys50.length := by rw [← hys50, List.length_drop, List.length_take]; omega
        have hc50 : ys50.length ≤ (c - 0) - 0 := by omega
        have hm50 : (c - 0) - 0 ≤ maxLen := Nat.le_trans (Nat.sub_le _ _) hm1
        rw [hys50, show cutA A1 (c - 0) 0 _ = A50 from hA50] at hr50
        rw [hA50, hl50]
        refine XD.take (i := 13) (l' := (lb 18 10239)) (oA B8 [1, 1, 1, 1, 1, 0, 0] 13) (.v (.slice A1 ys1.length (c - 0))) QOk.ctxG (by kernel_rfl) (by kernel_rfl) (by kernel_rfl) (by kernel_rfl) (by kernel_rfl) ?_
        refine XD.norm [0, 2, 6, 41, 44, 47, 50] [] ⟨79, [(0, .v (.slice A1 ys1.length (c - 0))), (2, .v (.int .u8 q)), (6, .v (.bool false)), (41, .v (.bool true)), (44, .v (.slice A49 ys49.length ((c - 0) - (((min k ((ys1.length : Nat) : Int)) - ((min k ((ys1.length : Nat) : Int)) % 2)).toNat)))), (47, .v (.slice A50 ys50.length ((c - 0) - 0))), (50, .v (.slice A1 ys1.length (c - 0)))], []⟩ (by kernel_rfl) trivial ?_
        refine XD.two (i := 11) (j := 14) (li := (lb 18 12287)) (lj := (lb 18 26623)) (oA B8 [1, 1, 1, 1, 1, 0, 0] 11) (oA B8 [1, 1, 1, 1, 1, 0, 0] 14) (by kernel_rfl) (by kernel_rfl) (by kernel_rfl) (by kernel_rfl) (by kernel_rfl) ?_ ?_
        · -- 11 first
          refine X.lit 48 22 1 2 [.slice A49 ys49.length ((c - 0) - (((min k ((ys1.length : Nat) : Int)) - ((min k ((ys1.length : Nat) : Int)) % 2)).toNat)), .slice A50 ys50.length ((c - 0) - 0)] (by kernel_rfl) (fun g => by kernel_rfl) ?_
          intro A51
          refine X.back ⟨trivial, Le.refl _, rfl, ?_⟩
          refine XD.norm [0, 2, 6, 41, 48, 50] [] ⟨79, [(0, .v (.slice A1 ys1.length (c - 0))), (2, .v (.int .u8 q)), (6, .v (.bool false)), (41, .v (.bool true)), (48, .v (.slice A51 2 2)), (50, .v (.slice A1 ys1.length (c - 0)))], []⟩ (by kernel_rfl) trivial ?_
          refine XD.two (i := 12) (j := 14) (li := (lb 18 16383)) (lj := (lb 18 28671)) (oA B8 [1, 1, 1, 1, 1, 0, 0] 12) (oA B8 [1, 1, 1, 1, 1, 0, 0] 14) (by kernel_rfl) (by kernel_rfl) (by kernel_rfl) (by kernel_rfl) (by kernel_rfl) ?_ ?_
          · -- 12 first
            have hB52 : ∀ p_ ∈ ([ys49, ys50] : List (List Int)), isBytes p_ := by intro p_ hp_; simp only [List.mem_cons, List.not_mem_nil, or_false] at hp_; rcases hp_ with rfl | rfl; all_goals first | exact (fun _ h_ => absurd h_ (List.not_mem_nil)) | exact row_bytes hr49 | exact row_bytes hr50
            have hL52 : ([ys49, ys50] : List (List Int)).flatten.length ≤ 600 := by simp only [List.flatten_cons, List.flatten_nil, List.length_append, List.length_nil]; omega
            refine X.callV (f := 28) (l := [.v (.slice A51 2 2)]) (Q := fun v_ => v_ = .int .u16 (cks ([ys49, ys50]).flatten)) [.slice A51 2 2] (by kernel_rfl) (by kernel_rfl) (by kernel_rfl) (fun G1_ hl_ hr_ => (Sum_ok _ _ [ys49, ys50] G1_ (rowLit (hr_ 48 _ rfl) (⟨_, _, rfl, rep_slice hc49 hm49 (hr49.mono hl_), ⟨_, _, rfl, rep_slice hc50 hm50 (hr50.mono hl_), rfl⟩⟩) (by decide)) (by simp) (by have := wsum_le (bytes_flat hB52) 600 hL52; omega)).mono (fun _ _ _ _ h_ => h_.1)) ?_
            rintro _ rfl
            refine X.back ⟨trivial, Le.refl _, rfl, ?_⟩
            refine XD.norm [0, 2, 6, 41, 49, 50] [] ⟨79, [(0, .v (.slice A1 ys1.length (c - 0))), (2, .v (.int .u8 q)), (6, .v (.bool false)), (41, .v (.bool true)), (49, .v (.int .u16 (cks ([ys49, ys50]).flatten))), (50, .v (.slice A1 ys1.length (c - 0)))], []⟩ (by kernel_rfl) trivial ?_
            refine XD.one (i := 14) (l' := (lb 18 32767)) (oA B8 [1, 1, 1, 1, 1, 0, 0] 14) (by kernel_rfl) (by kernel_rfl) (by kernel_rfl) ?_
            refine X.lit 51 22 1 1 [.slice A1 ys1.length (c - 0)] (by kernel_rfl) (fun g => by kernel_rfl) ?_
            intro A53
            refine X.back ⟨trivial, Le.refl _, rfl, ?_⟩
            refine XD.norm [0, 2, 6, 41, 49, 51] [] ⟨79, [(0, .v (.slice A1 ys1.length (c - 0))), (2, .v (.int .u8 q)), (6, .v (.bool false)), (41, .v (.bool true)), (49, .v (.int .u16 (cks ([ys49, ys50]).flatten))), (51, .v (.slice A53 1 1))], []⟩ (by kernel_rfl) trivial ?_
            refine XD.one (i := 15) (l' := (lb 18 65535)) (oA B8 [1, 1, 1, 1, 1, 0, 0] 15) (by kernel_rfl) (by kernel_rfl) (by kernel_rfl) ?_
            have hB54 : ∀ p_ ∈ ([ys1] : List (List Int)), isBytes p_ := by intro p_ hp_; simp only [List.mem_cons, List.not_mem_nil, or_false] at hp_; rcases hp_ with rfl; all_goals first | exact (fun _ h_ => absurd h_ (List.not_mem_nil)) | exact row_bytes hr1
            have hL54 : ([ys1] : List (List Int)).flatten.length ≤ 600 := by simp only [List.flatten_cons, List.flatten_nil, List.length_append, List.length_nil]; omega
            refine X.callV (f := 28) (l := [.v (.slice A53 1 1)]) (Q := fun v_ => v_ = .int .u16 (cks ([ys1]).flatten)) [.slice A53 1 1] (by kernel_rfl) (by kernel_rfl) (by kernel_rfl) (fun G1_ hl_ hr_ => (Sum_ok _ _ [ys1] G1_ (rowLit (hr_ 51 _ rfl) (⟨_, _, rfl, rep_slice hc1 hm1 (hr1.mono hl_), rfl⟩) (by decide)) (by simp) (by have := wsum_le (bytes_flat hB54) 600 hL54; omega)).mono (fun _ _ _ _ h_ => h_.1)) ?_
            rintro _ rfl
            refine X.back ⟨trivial, Le.refl _, rfl, ?_⟩
            refine XD.take (i := 16) (l' := (lb 18 131071)) (oA B8 [1, 1, 1, 1, 1, 0, 0] 16) (.v (.bool ((cks ([ys49, ys50]).flatten) != (cks ([ys1]).flatten)))) QOk.ctxG (by kernel_rfl) (by kernel_rfl) (by kernel_rfl) (by kernel_rfl) (by kernel_rfl) ?_
            refine XD.take (i := 17) (l' := (lb 18 262143)) (oA B8 [1, 1, 1, 1, 1, 0, 0] 17) (.v (.bool ((cks ([ys49, ys50]).flatten) != (cks ([ys1]).flatten)))) QOk.ctxG (by kernel_rfl) (by kernel_rfl) (by kernel_rfl) (by kernel_rfl) (by kernel_rfl) ?_
            refine XD.done (by kernel_rfl) ?_
            refine X.run 1 [0, 2, 6, 54] [] (.code (cA B8 [1, 1, 1, 1, 1, 0, 1])) [.seq (cA B8 [1, 1, 1, 1, 1, 1])] ⟨79, [(0, .v (.slice A1 ys1.length (c - 0))), (2, .v (.int .u8 q)), (6, .v (.bool false)), (54, .v (.bool ((cks ([ys49, ys50]).flatten) != (cks ([ys1]).flatten))))], []⟩ (by kernel_rfl) ?_
            refine X.isFalse 54 rfl (by rw [← hys49, ← hys50, cks_swap (l := ys1) _ (by omega) (by omega) (by omega)]; simp) ?_
            refine X.run 8 [0, 6, 56, 58] [] (.ops (aA B8 [1, 1, 1, 1, 1, 1, 0]) (oA B8 [1, 1, 1, 1, 1, 1, 0] 3 :: lA B8 [1, 1, 1, 1, 1, 1, 0] 4)) [.seq (cA B8 [1, 1, 1, 1, 1, 1, 1])] ⟨79, [(0, .v (.slice A1 ys1.length (c - 0))), (6, .v (.bool false)), (56, .v (.slice A1 ys1.length (c - 0))), (58, .v (.int .i64 (IntKind.i64.wrap q)))], []⟩ (by kernel_rfl) ?_
            refine X.known 58 (y := .v (.int .i64 q)) rfl (congrArg (fun z_ => AV.v (.int .i64 z_)) (wi64 (by omega) (by omega))) ?_
            refine X.callG (f := 40) (l := [.v (.slice A1 ys1.length (c - 0)), .v (.int .i64 q)]) [.slice A1 ys1.length (c - 0), .int .i64 q] 559 (by kernel_rfl) (by kernel_rfl) (by kernel_rfl) (Fill_ok _ _ ys1 q _ hr1 hc1 (by omega) (by omega)) ?_
            rintro v55 G55 rows55 hG55 ⟨ea55, eb55⟩
            replace hb := hb.mono hG55.le
            replace hr1 := hr1.mono hG55.le
            replace hr3 := hr3.mono hG55.le
            replace hr4 := hr4.mono hG55.le
            replace hr49 := hr49.mono hG55.le
            replace hr50 := hr50.mono hG55.le
            by_cases hok55 : (0 ≤ q ∧ q % 2 = 0 ∧ q + 2 ≤ (ys1.length : Int))
            · -- filled: True
              obtain ⟨A55, c55, rfl, hc55, rfl⟩ := eb55 hok55
              clear ea55 eb55
              refine X.tellR [559] (R' := [(559, ⟨5, 1, .slice A55 ys1.length c55, ys1.length, (filled ys1 q).map (Value.int .u8)⟩)]) rfl ?_
              have hbf55 := row_bytes hr1
              refine X.run 18 [6, 9, 64, 70] [] (.ops (aA B8 [1, 1, 1, 1, 1, 1, 1, 0]) (oA B8 [1, 1, 1, 1, 1, 1, 1, 0] 9 :: lA B8 [1, 1, 1, 1, 1, 1, 1, 0] 10)) [.seq (cA B8 [1, 1, 1, 1, 1, 1, 1, 1])] ⟨79, [(6, .v (.bool false)), (9, .v (.slice A55 ys1.length c55)), (64, .v (.bool false)), (70, .v (.bool (((ys1.length : Nat) : Int) == ((ys1.length : Nat) : Int))))], []⟩ (by kernel_rfl) ?_
              refine X.isTrue 70 rfl (by simp) ?_
              refine X.run 1 [6, 64, 70, 71] [] (.ops (aA B8 [1, 1, 1, 1, 1, 1, 1, 0]) (oA B8 [1, 1, 1, 1, 1, 1, 1, 0] 10 :: lA B8 [1, 1, 1, 1, 1, 1, 1, 0] 11)) [.seq (cA B8 [1, 1, 1, 1, 1, 1, 1, 1])] ⟨79, [(6, .v (.bool false)), (64, .v (.bool false)), (70, .v (.bool true)), (71, .v (.slice A55 ys1.length c55))], []⟩ (by kernel_rfl) ?_
              refine X.lit 72 22 1 1 [.slice A55 ys1.length c55] (by kernel_rfl) (fun g => by kernel_rfl) ?_
              intro A56
              refine X.run 0 [6, 64, 70, 72] [] (.ops (aA B8 [1, 1, 1, 1, 1, 1, 1, 0]) (oA B8 [1, 1, 1, 1, 1, 1, 1, 0] 11 :: lA B8 [1, 1, 1, 1, 1, 1, 1, 0] 12)) [.seq (cA B8 [1, 1, 1, 1, 1, 1, 1, 1])] ⟨79, [(6, .v (.bool false)), (64, .v (.bool false)), (70, .v (.bool true)), (72, .v (.slice A56 1 1))], []⟩ (by kernel_rfl) ?_
              refine X.capLe (i := 559) (q := ⟨5, 1, .slice A55 ys1.length c55, ys1.length, (filled ys1 q).map (Value.int .u8)⟩) (n := ys1.length) (c := c55) (A := A55) rfl rfl fun hn57 hx57 => ?_
              have hl57 : (filled ys1 q).length = ys1.length := by simp [filled]
              have hb57 : isBytes (filled ys1 q) := by unfold filled; exact bytes_set (bytes_set (bytes_set (bytes_set hbf55 (by omega)) (by omega)) (by rw [u8_wrap]; omega)) (by rw [u8_wrap]; omega)
              refine X.callV (f := 30) (l := [.v (.slice A56 1 1)]) (Q := fun v_ => v_ = .bool (cks (filled ys1 q) == 0)) [.slice A56 1 1] (by kernel_rfl) (by kernel_rfl) (by kernel_rfl) (fun G1_ hl_ hr_ => (Verify_ok _ _ [filled ys1 q] G1_ (rowLit (hr_ 72 _ rfl) ⟨_, _, rfl, (show (D.slice (D.int .u8)).rep G1_ (filled ys1 q) [.slice A55 ys1.length c55] by rw [← hl57]; exact rep_slice (by omega) hx57 (rowLit (hr_ 559 _ rfl) (reps_ints hb57) (by decide))), rfl⟩ (by decide)) (by simp) (by rw [List.flatten_cons, List.flatten_nil, List.append_nil]; have := wsum_le hb57 300 (by omega); omega)).mono (fun _ _ _ _ h_ => by rw [h_.1, List.flatten_cons, List.flatten_nil, List.append_nil])) ?_
              rintro _ rfl
              refine X.run 3 [6, 76] [] (.ops (aA B8 [1, 1, 1, 1, 1, 1, 1, 0]) (oA B8 [1, 1, 1, 1, 1, 1, 1, 0] 15 :: lA B8 [1, 1, 1, 1, 1, 1, 1, 0] 16)) [.seq (cA B8 [1, 1, 1, 1, 1, 1, 1, 1])] ⟨79, [(6, .v (.bool false)), (76, .v (.bool (cks (filled ys1 q) == 0)))], []⟩ (by kernel_rfl) ?_
              refine X.isTrue 76 rfl (by rw [cks_filled hbf55 hok55.1 hok55.2.1 hok55.2.2]; rfl) ?_
              refine X.callG (f := 31) (l := []) [] 0 (by kernel_rfl) (by kernel_rfl) (by kernel_rfl) (works10_ok _) ?_
              rintro v58 G58 rows58 hG58 ⟨rfl, rfl⟩
              replace hb := hb.mono hG58.le
              replace hr1 := hr1.mono hG58.le
              replace hr3 := hr3.mono hG58.le
              replace hr4 := hr4.mono hG58.le
              replace hr49 := hr49.mono hG58.le
              replace hr50 := hr50.mono hG58.le
              refine X.run 5 [6] [] (.ex .ret) [] ⟨79, [(6, .v (.bool true))], []⟩ (by kernel_rfl) ?_
              refine doneG (.inl rfl) [.bool true] [] (by kernel_rfl) rfl rfl ((hG55.trans hG58)) ?_
              -- end 9 (TT)
              exact ⟨rfl, rfl⟩
            · -- filled: False
              obtain ⟨rfl, rfl⟩ := ea55 hok55
              clear ea55 eb55
              refine X.run 24 [6, 76] [] (.ops (aA B8 [1, 1, 1, 1, 1, 1, 1, 0]) (oA B8 [1, 1, 1, 1, 1, 1, 1, 0] 15 :: lA B8 [1, 1, 1, 1, 1, 1, 1, 0] 16)) [.seq (cA B8 [1, 1, 1, 1, 1, 1, 1, 1])] ⟨79, [(6, .v (.bool false)), (76, .v (.bool true))], []⟩ (by kernel_rfl) ?_
              refine X.callG (f := 31) (l := []) [] 0 (by kernel_rfl) (by kernel_rfl) (by kernel_rfl) (works10_ok _) ?_
              rintro v59 G59 rows59 hG59 ⟨rfl, rfl⟩
              replace hb := hb.mono hG59.le
              replace hr1 := hr1.mono hG59.le
              replace hr3 := hr3.mono hG59.le
              replace hr4 := hr4.mono hG59.le
              replace hr49 := hr49.mono hG59.le
              replace hr50 := hr50.mono hG59.le
              refine X.run 5 [6] [] (.ex .ret) [] ⟨79, [(6, .v (.bool true))], []⟩ (by kernel_rfl) ?_
              refine doneG (.inl rfl) [.bool true] [] (by kernel_rfl) rfl rfl ((hG55.trans hG59)) ?_
              -- end 10 (TF)
              exact ⟨rfl, rfl⟩
          · -- 14 first
            refine X.lit 51 22 1 1 [.slice A1 ys1.length (c - 0)] (by kernel_rfl) (fun g => by kernel_rfl) ?_
            intro A60
            refine X.back ⟨trivial, Le.refl _, rfl, ?_⟩
            refine XD.norm [0, 2, 6, 41, 48, 51] [] ⟨79, [(0, .v (.slice A1 ys1.length (c - 0))), (2, .v (.int .u8 q)), (6, .v (.bool false)), (41, .v (.bool true)), (48, .v (.slice A51 2 2)), (51, .v (.slice A60 1 1))], []⟩ (by kernel_rfl) trivial ?_
            refine XD.one (i := 12) (l' := (lb 18 32767)) (oA B8 [1, 1, 1, 1, 1, 0, 0] 12) (by kernel_rfl) (by kernel_rfl) (by kernel_rfl) ?_
            have hB61 : ∀ p_ ∈ ([ys49, ys50] : List (List Int)), isBytes p_ := by intro p_ hp_; simp only [List.mem_cons, List.not_mem_nil, or_false] at hp_; rcases hp_ with rfl | rfl; all_goals first | exact (fun _ h_ => absurd h_ (List.not_mem_nil)) | exact row_bytes hr49 | exact row_bytes hr50
            have hL61 : ([ys49, ys50] : List (List Int)).flatten.length ≤ 600 := by simp only [List.flatten_cons, List.flatten_nil, List.length_append, List.length_nil]; omega
            refine X.callV (f := 28) (l := [.v (.slice A51 2 2)]) (Q := fun v_ => v_ = .int .u16 (cks ([ys49, ys50]).flatten)) [.slice A51 2 2] (by kernel_rfl) (by kernel_rfl) (by kernel_rfl) (fun G1_ hl_ hr_ => (Sum_ok _ _ [ys49, ys50] G1_ (rowLit (hr_ 48 _ rfl) (⟨_, _, rfl, rep_slice hc49 hm49 (hr49.mono hl_), ⟨_, _, rfl, rep_slice hc50 hm50 (hr50.mono hl_), rfl⟩⟩) (by decide)) (by simp) (by have := wsum_le (bytes_flat hB61) 600 hL61; omega)).mono (fun _ _ _ _ h_ => h_.1)) ?_
            rintro _ rfl
            refine X.back ⟨trivial, Le.refl _, rfl, ?_⟩
            refine XD.norm [0, 2, 6, 41, 49, 51] [] ⟨79, [(0, .v (.slice A1 ys1.length (c - 0))), (2, .v (.int .u8 q)), (6, .v (.bool false)), (41, .v (.bool true)), (49, .v (.int .u16 (cks ([ys49, ys50]).flatten))), (51, .v (.slice A60 1 1))], []⟩ (by kernel_rfl) trivial ?_
            refine XD.one (i := 15) (l' := (lb 18 65535)) (oA B8 [1, 1, 1, 1, 1, 0, 0] 15) (by kernel_rfl) (by kernel_rfl) (by kernel_rfl) ?_
            have hB62 : ∀ p_ ∈ ([ys1] : List (List Int)), isBytes p_ := by intro p_ hp_; simp only [List.mem_cons, List.not_mem_nil, or_false] at hp_; rcases hp_ with rfl; all_goals first | exact (fun _ h_ => absurd h_ (List.not_mem_nil)) | exact row_bytes hr1
            have hL62 : ([ys1] : List (List Int)).flatten.length ≤ 600 := by simp only [List.flatten_cons, List.flatten_nil, List.length_append, List.length_nil]; omega
            refine X.callV (f := 28) (l := [.v (.slice A60 1 1)]) (Q := fun v_ => v_ = .int .u16 (cks ([ys1]).flatten)) [.slice A60 1 1] (by kernel_rfl) (by kernel_rfl) (by kernel_rfl) (fun G1_ hl_ hr_ => (Sum_ok _ _ [ys1] G1_ (rowLit (hr_ 51 _ rfl) (⟨_, _, rfl, rep_slice hc1 hm1 (hr1.mono hl_), rfl⟩) (by decide)) (by simp) (by have := wsum_le (bytes_flat hB62) 600 hL62; omega)).mono (fun _ _ _ _ h_ => h_.1)) ?_
            rintro _ rfl
            refine X.back ⟨trivial, Le.refl _, rfl, ?_⟩
            refine XD.take (i := 16) (l' := (lb 18 131071)) (oA B8 [1, 1, 1, 1, 1, 0, 0] 16) (.v (.bool ((cks ([ys49, ys50]).flatten) != (cks ([ys1]).flatten)))) QOk.ctxG (by kernel_rfl) (by kernel_rfl) (by kernel_rfl) (by kernel_rfl) (by kernel_rfl) ?_
            refine XD.take (i := 17) (l' := (lb 18 262143)) (oA B8 [1, 1, 1, 1, 1, 0, 0] 17) (.v (.bool ((cks ([ys49, ys50]).flatten) != (cks ([ys1]).flatten)))) QOk.ctxG (by kernel_rfl) (by kernel_rfl) (by kernel_rfl) (by kernel_rfl) (by kernel_rfl) ?_
            refine XD.done (by kernel_rfl) ?_
            refine X.run 1 [0, 2, 6, 54] [] (.code (cA B8 [1, 1, 1, 1, 1, 0, 1])) [.seq (cA B8 [1, 1, 1, 1, 1, 1])] ⟨79, [(0, .v (.slice A1 ys1.length (c - 0))), (2, .v (.int .u8 q)), (6, .v (.bool false)), (54, .v (.bool ((cks ([ys49, ys50]).flatten) != (cks ([ys1]).flatten))))], []⟩ (by kernel_rfl) ?_
            refine X.isFalse 54 rfl (by rw [← hys49, ← hys50, cks_swap (l := ys1) _ (by omega) (by omega) (by omega)]; simp) ?_
            refine X.run 8 [0, 6, 56, 58] [] (.ops (aA B8 [1, 1, 1, 1, 1, 1, 0]) (oA B8 [1, 1, 1, 1, 1, 1, 0] 3 :: lA B8 [1, 1, 1, 1, 1, 1, 0] 4)) [.seq (cA B8 [1, 1, 1, 1, 1, 1, 1])] ⟨79, [(0, .v (.slice A1 ys1.length (c - 0))), (6, .v (.bool false)), (56, .v (.slice A1 ys1.length (c - 0))), (58, .v (.int .i64 (IntKind.i64.wrap q)))], []⟩ (by kernel_rfl) ?_
            refine X.known 58 (y := .v (.int .i64 q)) rfl (congrArg (fun z_ => AV.v (.int .i64 z_)) (wi64 (by omega) (by omega))) ?_
            refine X.callG (f := 40) (l := [.v (.slice A1 ys1.length (c - 0)), .v (.int .i64 q)]) [.slice A1 ys1.length (c - 0), .int .i64 q] 559 (by kernel_rfl) (by kernel_rfl) (by kernel_rfl) (Fill_ok _ _ ys1 q _ hr1 hc1 (by omega) (by omega)) ?_
            rintro v63 G63 rows63 hG63 ⟨ea63, eb63⟩
            replace hb := hb.mono hG63.le
            replace hr1 := hr1.mono hG63.le
            replace hr3 := hr3.mono hG63.le
            replace hr4 := hr4.mono hG63.le
            replace hr49 := hr49.mono hG63.le
            replace hr50 := hr50.mono hG63.le
            by_cases hok63 : (0 ≤ q ∧ q % 2 = 0 ∧ q + 2 ≤ (ys1.length : Int))
            · -- filled: True
              obtain ⟨A63, c63, rfl, hc63, rfl⟩ := eb63 hok63
              clear ea63 eb63
              refine X.tellR [559] (R' := [(559, ⟨5, 1, .slice A63 ys1.length c63, ys1.length, (filled ys1 q).map (Value.int .u8)⟩)]) rfl ?_
              have hbf63 := row_bytes hr1
              refine X.run 18 [6, 9, 64, 70] [] (.ops (aA B8 [1, 1, 1, 1, 1, 1, 1, 0]) (oA B8 [1, 1, 1, 1, 1, 1, 1, 0] 9 :: lA B8 [1, 1, 1, 1, 1, 1, 1, 0] 10)) [.seq (cA B8 [1, 1, 1, 1, 1, 1, 1, 1])] ⟨79, [(6, .v (.bool false)), (9, .v (.slice A63 ys1.length c63)), (64, .v (.bool false)), (70, .v (.bool (((ys1.length : Nat) : Int) == ((ys1.length : Nat) : Int))))], []⟩ (by kernel_rfl) ?_
              refine X.isTrue 70 rfl (by simp) ?_
              refine X.run 1 [6, 64, 70, 71] [] (.ops (aA B8 [1, 1, 1, 1, 1, 1, 1, 0]) (oA B8 [1, 1, 1, 1, 1, 1, 1, 0] 10 :: lA B8 [1, 1, 1, 1, 1, 1, 1, 0] 11)) [.seq (cA B8 [1, 1, 1, 1, 1, 1, 1, 1])] ⟨79, [(6, .v (.bool false)), (64, .v (.bool false)), (70, .v (.bool true)), (71, .v (.slice A63 ys1.length c63))], []⟩ (by kernel_rfl) ?_
              refine X.lit 72 22 1 1 [.slice A63 ys1.length c63] (by kernel_rfl) (fun g => by kernel_rfl) ?_
              intro A64
              refine X.run 0 [6, 64, 70, 72] [] (.ops (aA B8 [1, 1, 1, 1, 1, 1, 1, 0]) (oA B8 [1, 1, 1, 1, 1, 1, 1, 0] 11 :: lA B8 [1, 1, 1, 1, 1, 1, 1, 0] 12)) [.seq (cA B8 [1, 1, 1, 1, 1, 1, 1, 1])] ⟨79, [(6, .v (.bool false)), (64, .v (.bool false)), (70, .v (.bool true)), (72, .v (.slice A64 1 1))], []⟩ (by kernel_rfl) ?_
              refine X.capLe (i := 559) (q := ⟨5, 1, .slice A63 ys1.length c63, ys1.length, (filled ys1 q).map (Value.int .u8)⟩) (n := ys1.length) (c := c63) (A := A63) rfl rfl fun hn65 hx65 => ?_
              have hl65 : (filled ys1 q).length = ys1.length := by simp [filled]
              have hb65 : isBytes (filled ys1 q) := by unfold filled; exact bytes_set (bytes_set (bytes_set (bytes_set hbf63 (by omega)) (by omega)) (by rw [u8_wrap]; omega)) (by rw [u8_wrap]; omega)
              refine X.callV (f := 30) (l := [.v (.slice A64 1 1)]) (Q := fun v_ => v_ = .bool (cks (filled ys1 q) == 0)) [.slice A64 1 1] (by kernel_rfl) (by kernel_rfl) (by kernel_rfl) (fun G1_ hl_ hr_ => (Verify_ok _ _ [filled ys1 q] G1_ (rowLit (hr_ 72 _ rfl) ⟨_, _, rfl, (show (D.slice (D.int .u8)).rep G1_ (filled ys1 q) [.slice A63 ys1.length c63] by rw [← hl65]; exact rep_slice (by omega) hx65 (rowLit (hr_ 559 _ rfl) (reps_ints hb65) (by decide))), rfl⟩ (by decide)) (by simp) (by rw [List.flatten_cons, List.flatten_nil, List.append_nil]; have := wsum_le hb65 300 (by omega); omega)).mono (fun _ _ _ _ h_ => by rw [h_.1, List.flatten_cons, List.flatten_nil, List.append_nil])) ?_
              rintro _ rfl
              refine X.run 3 [6, 76] [] (.ops (aA B8 [1, 1, 1, 1, 1, 1, 1, 0]) (oA B8 [1, 1, 1, 1, 1, 1, 1, 0] 15 :: lA B8 [1, 1, 1, 1, 1, 1, 1, 0] 16)) [.seq (cA B8 [1, 1, 1, 1, 1, 1, 1, 1])] ⟨79, [(6, .v (.bool false)), (76, .v (.bool (cks (filled ys1 q) == 0)))], []⟩ (by kernel_rfl) ?_
              refine X.isTrue 76 rfl (by rw [cks_filled hbf63 hok63.1 hok63.2.1 hok63.2.2]; rfl) ?_
              refine X.callG (f := 31) (l := []) [] 0 (by kernel_rfl) (by kernel_rfl) (by kernel_rfl) (works10_ok _) ?_
              rintro v66 G66 rows66 hG66 ⟨rfl, rfl⟩
              replace hb := hb.mono hG66.le
              replace hr1 := hr1.mono hG66.le
              replace hr3 := hr3.mono hG66.le
              replace hr4 := hr4.mono hG66.le
              replace hr49 := hr49.mono hG66.le
              replace hr50 := hr50.mono hG66.le
              refine X.run 5 [6] [] (.ex .ret) [] ⟨79, [(6, .v (.bool true))], []⟩ (by kernel_rfl) ?_
              refine doneG (.inl rfl) [.bool true] [] (by kernel_rfl) rfl rfl ((hG63.trans hG66)) ?_
              -- end 11 (TT)
              exact ⟨rfl, rfl⟩
            · -- filled: False
              obtain ⟨rfl, rfl⟩ := ea63 hok63
              clear ea63 eb63
              refine X.run 24 [6, 76] [] (.ops (aA B8 [1, 1, 1, 1, 1, 1, 1, 0]) (oA B8 [1, 1, 1, 1, 1, 1, 1, 0] 15 :: lA B8 [1, 1, 1, 1, 1, 1, 1, 0] 16)) [.seq (cA B8 [1, 1, 1, 1, 1, 1, 1, 1])] ⟨79, [(6, .v (.bool false)), (76, .v (.bool true))], []⟩ (by kernel_rfl) ?_
              refine X.callG (f := 31) (l := []) [] 0 (by kernel_rfl) (by kernel_rfl) (by kernel_rfl) (works10_ok _) ?_
              rintro v67 G67 rows67 hG67 ⟨rfl, rfl⟩
              replace hb := hb.mono hG67.le
              replace hr1 := hr1.mono hG67.le
              replace hr3 := hr3.mono hG67.le
              replace hr4 := hr4.mono hG67.le
              replace hr49 := hr49.mono hG67.le
              replace hr50 := hr50.mono hG67.le
              refine X.run 5 [6] [] (.ex .ret) [] ⟨79, [(6, .v (.bool true))], []⟩ (by kernel_rfl) ?_
              refine doneG (.inl rfl) [.bool true] [] (by kernel_rfl) rfl rfl ((hG63.trans hG67)) ?_
              -- end 12 (TF)
              exact ⟨rfl, rfl⟩
        · -- 14 first
          refine X.lit 51 22 1 1 [.slice A1 ys1.length (c - 0)] (by kernel_rfl) (fun g => by kernel_rfl) ?_
          intro A68
          refine X.back ⟨trivial, Le.refl _, rfl, ?_⟩
          refine XD.norm [0, 2, 6, 41, 44, 47, 51] [] ⟨79, [(0, .v (.slice A1 ys1.length (c - 0))), (2, .v (.int .u8 q)), (6, .v (.bool false)), (41, .v (.bool true)), (44, .v (.slice A49 ys49.length ((c - 0) - (((min k ((ys1.length : Nat) : Int)) - ((min k ((ys1.length : Nat) : Int)) % 2)).toNat)))), (47, .v (.slice A50 ys50.length ((c - 0) - 0))), (51, .v (.slice A68 1 1))], []⟩ (by kernel_rfl) trivial ?_
          refine XD.one (i := 11) (l' := (lb 18 28671)) (oA B8 [1, 1, 1, 1, 1, 0, 0] 11) (by kernel_rfl) (by kernel_rfl) (by kernel_rfl) ?_
          refine X.lit 48 22 1 2 [.slice A49 ys49.length ((c - 0) - (((min k ((ys1.length : Nat) : Int)) - ((min k ((ys1.length : Nat) : Int)) % 2)).toNat)), .slice A50 ys50.length ((c - 0) - 0)] (by kernel_rfl) (fun g => by kernel_rfl) ?_
          intro A69
          refine X.back ⟨trivial, Le.refl _, rfl, ?_⟩
          refine XD.norm [0, 2, 6, 41, 48, 51] [] ⟨79, [(0, .v (.slice A1 ys1.length (c - 0))), (2, .v (.int .u8 q)), (6, .v (.bool false)), (41, .v (.bool true)), (48, .v (.slice A69 2 2)), (51, .v (.slice A68 1 1))], []⟩ (by kernel_rfl) trivial ?_
          refine XD.one (i := 12) (l' := (lb 18 32767)) (oA B8 [1, 1, 1, 1, 1, 0, 0] 12) (by kernel_rfl) (by kernel_rfl) (by kernel_rfl) ?_
          have hB70 : ∀ p_ ∈ ([ys49, ys50] : List (List Int)), isBytes p_ := by intro p_ hp_; simp only [List.mem_cons, List.not_mem_nil, or_false] at hp_; rcases hp_ with rfl | rfl; all_goals first | exact (fun _ h_ => absurd h_ (List.not_mem_nil)) | exact row_bytes hr49 | exact row_bytes hr50
          have hL70 : ([ys49, ys50] : List (List Int)).flatten.length ≤ 600 := by simp only [List.flatten_cons, List.flatten_nil, List.length_append, List.length_nil]; omega
          refine X.callV (f := 28) (l := [.v (.slice A69 2 2)]) (Q := fun v_ => v_ = .int .u16 (cks ([ys49, ys50]).flatten)) [.slice A69 2 2] (by kernel_rfl) (by kernel_rfl) (by kernel_rfl) (fun G1_ hl_ hr_ => (Sum_ok _ _ [ys49, ys50] G1_ (rowLit (hr_ 48 _ rfl) (⟨_, _, rfl, rep_slice hc49 hm49 (hr49.mono hl_), ⟨_, _, rfl, rep_slice hc50 hm50 (hr50.mono hl_), rfl⟩⟩) (by decide)) (by simp) (by have := wsum_le (bytes_flat hB70) 600 hL70; omega)).mono (fun _ _ _ _ h_ => h_.1)) ?_
          rintro _ rfl
          refine X.back ⟨trivial, Le.refl _, rfl, ?_⟩
          refine XD.norm [0, 2, 6, 41, 49, 51] [] ⟨79, [(0, .v (.slice A1 ys1.length (c - 0))), (2, .v (.int .u8 q)), (6, .v (.bool false)), (41, .v (.bool true)), (49, .v (.int .u16 (cks ([ys49, ys50]).flatten))), (51, .v (.slice A68 1 1))], []⟩ (by kernel_rfl) trivial ?_
          refine XD.one (i := 15) (l' := (lb 18 65535)) (oA B8 [1, 1, 1, 1, 1, 0, 0] 15) (by kernel_rfl) (by kernel_rfl) (by kernel_rfl) ?_
          have hB71 : ∀ p_ ∈ ([ys1] : List (List Int)), isBytes p_ := by intro p_ hp_; simp only [List.mem_cons, List.not_mem_nil, or_false] at hp_; rcases hp_ with rfl; all_goals first | exact (fun _ h_ => absurd h_ (List.not_mem_nil)) | exact row_bytes hr1
          have hL71 : ([ys1] : List (List Int)).flatten.length ≤ 600 := by simp only [List.flatten_cons, List.flatten_nil, List.length_append, List.length_nil]; omega
          refine X.callV (f := 28) (l := [.v (.slice A68 1 1)]) (Q := fun v_ => v_ = .int .u16 (cks ([ys1]).flatten)) [.slice A68 1 1] (by kernel_rfl) (by kernel_rfl) (by kernel_rfl) (fun G1_ hl_ hr_ => (Sum_ok _ _ [ys1] G1_ (rowLit (hr_ 51 _ rfl) (⟨_, _, rfl, rep_slice hc1 hm1 (hr1.mono hl_), rfl⟩) (by decide)) (by simp) (by have := wsum_le (bytes_flat hB71) 600 hL71; omega)).mono (fun _ _ _ _ h_ => h_.1)) ?_
          rintro _ rfl
          refine X.back ⟨trivial, Le.refl _, rfl, ?_⟩
          refine XD.take (i := 16) (l' := (lb 18 131071)) (oA B8 [1, 1, 1, 1, 1, 0, 0] 16) (.v (.bool ((cks ([ys49, ys50]).flatten) != (cks ([ys1]).flatten)))) QOk.ctxG (by kernel_rfl) (by kernel_rfl) (by kernel_rfl) (by kernel_rfl) (by kernel_rfl) ?_
          refine XD.take (i := 17) (l' := (lb 18 262143)) (oA B8 [1, 1, 1, 1, 1, 0, 0] 17) (.v (.bool ((cks ([ys49, ys50]).flatten) != (cks ([ys1]).flatten)))) QOk.ctxG (by kernel_rfl) (by kernel_rfl) (by kernel_rfl) (by kernel_rfl) (by kernel_rfl) ?_
          refine XD.done (by kernel_rfl) ?_
          refine X.run 1 [0, 2, 6, 54] [] (.code (cA B8 [1, 1, 1, 1, 1, 0, 1])) [.seq (cA B8 [1, 1, 1, 1, 1, 1])] ⟨79, [(0, .v (.slice A1 ys1.length (c - 0))), (2, .v (.int .u8 q)), (6, .v (.bool false)), (54, .v (.bool ((cks ([ys49, ys50]).flatten) != (cks ([ys1]).flatten))))], []⟩ (by kernel_rfl) ?_
          refine X.isFalse 54 rfl (by rw [← hys49, ← hys50, cks_swap (l := ys1) _ (by omega) (by omega) (by omega)]; simp) ?_
          refine X.run 8 [0, 6, 56, 58] [] (.ops (aA B8 [1, 1, 1, 1, 1, 1, 0]) (oA B8 [1, 1, 1, 1, 1, 1, 0] 3 :: lA B8 [1, 1, 1, 1, 1, 1, 0] 4)) [.seq (cA B8 [1, 1, 1, 1, 1, 1, 1])] ⟨79, [(0, .v (.slice A1 ys1.length (c - 0))), (6, .v (.bool false)), (56, .v (.slice A1 ys1.length (c - 0))), (58, .v (.int .i64 (IntKind.i64.wrap q)))], []⟩ (by kernel_rfl) ?_
          refine X.known 58 (y := .v (.int .i64 q)) rfl (congrArg (fun z_ => AV.v (.int .i64 z_)) (wi64 (by omega) (by omega))) ?_
          refine X.callG (f := 40) (l := [.v (.slice A1 ys1.length (c - 0)), .v (.int .i64 q)]) [.slice A1 ys1.length (c - 0), .int .i64 q] 559 (by kernel_rfl) (by kernel_rfl) (by kernel_rfl) (Fill_ok _ _ ys1 q _ hr1 hc1 (by omega) (by omega)) ?_
          rintro v72 G72 rows72 hG72 ⟨ea72, eb72⟩
          replace hb := hb.mono hG72.le
          replace hr1 := hr1.mono hG72.le
          replace hr3 := hr3.mono hG72.le
          replace hr4 := hr4.mono hG72.le
          replace hr49 := hr49.mono hG72.le
          replace hr50 := hr50.mono hG72.le
          by_cases hok72 : (0 ≤ q ∧ q % 2 = 0 ∧ q + 2 ≤ (ys1.length : Int))
          · -- filled: True
            obtain ⟨A72, c72, rfl, hc72, rfl⟩ := eb72 hok72
            clear ea72 eb72
            refine X.tellR [559] (R' := [(559, ⟨5, 1, .slice A72 ys1.length c72, ys1.length, (filled ys1 q).map (Value.int .u8)⟩)]) rfl ?_
            have hbf72 := row_bytes hr1
            refine X.run 18 [6, 9, 64, 70] [] (.ops (aA B8 [1, 1, 1, 1, 1, 1, 1, 0]) (oA B8 [1, 1, 1, 1, 1, 1, 1, 0] 9 :: lA B8 [1, 1, 1, 1, 1, 1, 1, 0] 10)) [.seq (cA B8 [1, 1, 1, 1, 1, 1, 1, 1])] ⟨79, [(6, .v (.bool false)), (9, .v (.slice A72 ys1.length c72)), (64, .v (.bool false)), (70, .v (.bool (((ys1.length : Nat) : Int) == ((ys1.length : Nat) : Int))))], []⟩ (by kernel_rfl) ?_
            refine X.isTrue 70 rfl (by simp) ?_
            refine X.run 1 [6, 64, 70, 71] [] (.ops (aA B8 [1, 1, 1, 1, 1, 1, 1, 0]) (oA B8 [1, 1, 1, 1, 1, 1, 1, 0] 10 :: lA B8 [1, 1, 1, 1, 1, 1, 1, 0] 11)) [.seq (cA B8 [1, 1, 1, 1, 1, 1, 1, 1])] ⟨79, [(6, .v (.bool false)), (64, .v (.bool false)), (70, .v (.bool true)), (71, .v (.slice A72 ys1.length c72))], []⟩ (by kernel_rfl) ?_
            refine X.lit 72 22 1 1 [.slice A72 ys1.length c72] (by kernel_rfl) (fun g => by kernel_rfl) ?_
            intro A73
            refine X.run 0 [6, 64, 70, 72] [] (.ops (aA B8 [1, 1, 1, 1, 1, 1, 1, 0]) (oA B8 [1, 1, 1, 1, 1, 1, 1, 0] 11 :: lA B8 [1, 1, 1, 1, 1, 1, 1, 0] 12)) [.seq (cA B8 [1, 1, 1, 1, 1, 1, 1, 1])] ⟨79, [(6, .v (.bool false)), (64, .v (.bool false)), (70, .v (.bool true)), (72, .v (.slice A73 1 1))], []⟩ (by kernel_rfl) ?_
            refine X.capLe (i := 559) (q := ⟨5, 1, .slice A72 ys1.length c72, ys1.length, (filled ys1 q).map (Value.int .u8)⟩) (n := ys1.length) (c := c72) (A := A72) rfl rfl fun hn74 hx74 => ?_
            have hl74 : (filled ys1 q).length = ys1.length := by simp [filled]
            have hb74 : isBytes (filled ys1 q) := by unfold filled; exact bytes_set (bytes_set (bytes_set (bytes_set hbf72 (by omega)) (by omega)) (by rw [u8_wrap]; omega)) (by rw [u8_wrap]; omega)
            refine X.callV (f := 30) (l := [.v (.slice A73 1 1)]) (Q := fun v_ => v_ = .bool (cks (filled ys1 q) == 0)) [.slice A73 1 1] (by kernel_rfl) (by kernel_rfl) (by kernel_rfl) (fun G1_ hl_ hr_ => (Verify_ok _ _ [filled ys1 q] G1_ (rowLit (hr_ 72 _ rfl) ⟨_, _, rfl, (show (D.slice (D.int .u8)).rep G1_ (filled ys1 q) [.slice A72 ys1.length c72] by rw [← hl74]; exact rep_slice (by omega) hx74 (rowLit (hr_ 559 _ rfl) (reps_ints hb74) (by decide))), rfl⟩ (by decide)) (by simp) (by rw [List.flatten_cons, List.flatten_nil, List.append_nil]; have := wsum_le hb74 300 (by omega); omega)).mono (fun _ _ _ _ h_ => by rw [h_.1, List.flatten_cons, List.flatten_nil, List.append_nil])) ?_
            rintro _ rfl
            refine X.run 3 [6, 76] [] (.ops (aA B8 [1, 1, 1, 1, 1, 1, 1, 0]) (oA B8 [1, 1, 1, 1, 1, 1, 1, 0] 15 :: lA B8 [1, 1, 1, 1, 1, 1, 1, 0] 16)) [.seq (cA B8 [1, 1, 1, 1, 1, 1, 1, 1])] ⟨79, [(6, .v (.bool false)), (76, .v (.bool (cks (filled ys1 q) == 0)))], []⟩ (by kernel_rfl) ?_
            refine X.isTrue 76 rfl (by rw [cks_filled hbf72 hok72.1 hok72.2.1 hok72.2.2]; rfl) ?_
            refine X.callG (f := 31) (l := []) [] 0 (by kernel_rfl) (by kernel_rfl) (by kernel_rfl) (works10_ok _) ?_
            rintro v75 G75 rows75 hG75 ⟨rfl, rfl⟩
            replace hb := hb.mono hG75.le
            replace hr1 := hr1.mono hG75.le
            replace hr3 := hr3.mono hG75.le
            replace hr4 := hr4.mono hG75.le
            replace hr49 := hr49.mono hG75.le
            replace hr50 := hr50.mono hG75.le
            refine X.run 5 [6] [] (.ex .ret) [] ⟨79, [(6, .v (.bool true))], []⟩ (by kernel_rfl) ?_
            refine doneG (.inl rfl) [.bool true] [] (by kernel_rfl) rfl rfl ((hG72.trans hG75)) ?_
            -- end 13 (TT)
            exact ⟨rfl, rfl⟩
          · -- filled: False
            obtain ⟨rfl, rfl⟩ := ea72 hok72
            clear ea72 eb72
            refine X.run 24 [6, 76] [] (.ops (aA B8 [1, 1, 1, 1, 1, 1, 1, 0]) (oA B8 [1, 1, 1, 1, 1, 1, 1, 0] 15 :: lA B8 [1, 1, 1, 1, 1, 1, 1, 0] 16)) [.seq (cA B8 [1, 1, 1, 1, 1, 1, 1, 1])] ⟨79, [(6, .v (.bool false)), (76, .v (.bool true))], []⟩ (by kernel_rfl) ?_
            refine X.callG (f := 31) (l := []) [] 0 (by kernel_rfl) (by kernel_rfl) (by kernel_rfl) (works10_ok _) ?_
            rintro v76 G76 rows76 hG76 ⟨rfl, rfl⟩
            replace hb := hb.mono hG76.le
            replace hr1 := hr1.mono hG76.le
            replace hr3 := hr3.mono hG76.le
            replace hr4 := hr4.mono hG76.le
            replace hr49 := hr49.mono hG76.le
            replace hr50 := hr50.mono hG76.le
            refine X.run 5 [6] [] (.ex .ret) [] ⟨79, [(6, .v (.bool true))], []⟩ (by kernel_rfl) ?_
            refine doneG (.inl rfl) [.bool true] [] (by kernel_rfl) rfl rfl ((hG72.trans hG76)) ?_
            -- end 14 (TF)
            exact ⟨rfl, rfl⟩
      · -- slot 41: (Int.tmod ((ys1.length : Nat) : Int) 2) == 0 is False
        replace h48 : (Int.tmod ((ys1.length : Nat) : Int) 2) ≠ 0 := by simpa using h48
        have htm_ : Int.tmod ((ys1.length : Nat) : Int) 2 = ((ys1.length : Nat) : Int) % 2 := Int.tmod_eq_emod_of_nonneg (by omega)
        refine XD.off (i := 5) (l' := (lb 18 63)) (oA B8 [1, 1, 1, 1, 1, 0, 0] 5) QOk.ctxG (by kernel_rfl) (by kernel_rfl) (by kernel_rfl) (by kernel_rfl) ?_
        refine XD.off (i := 6) (l' := (lb 18 127)) (oA B8 [1, 1, 1, 1, 1, 0, 0] 6) QOk.ctxG (by kernel_rfl) (by kernel_rfl) (by kernel_rfl) (by kernel_rfl) ?_
        refine XD.off (i := 7) (l' := (lb 18 255)) (oA B8 [1, 1, 1, 1, 1, 0, 0] 7) QOk.ctxG (by kernel_rfl) (by kernel_rfl) (by kernel_rfl) (by kernel_rfl) ?_
        refine XD.off (i := 8) (l' := (lb 18 511)) (oA B8 [1, 1, 1, 1, 1, 0, 0] 8) QOk.ctxG (by kernel_rfl) (by kernel_rfl) (by kernel_rfl) (by kernel_rfl) ?_
        refine XD.off (i := 9) (l' := (lb 18 1023)) (oA B8 [1, 1, 1, 1, 1, 0, 0] 9) QOk.ctxG (by kernel_rfl) (by kernel_rfl) (by kernel_rfl) (by kernel_rfl) ?_
        refine XD.off (i := 10) (l' := (lb 18 2047)) (oA B8 [1, 1, 1, 1, 1, 0, 0] 10) QOk.ctxG (by kernel_rfl) (by kernel_rfl) (by kernel_rfl) (by kernel_rfl) ?_
        refine XD.off (i := 11) (l' := (lb 18 4095)) (oA B8 [1, 1, 1, 1, 1, 0, 0] 11) QOk.ctxG (by kernel_rfl) (by kernel_rfl) (by kernel_rfl) (by kernel_rfl) ?_
        refine XD.off (i := 12) (l' := (lb 18 8191)) (oA B8 [1, 1, 1, 1, 1, 0, 0] 12) QOk.ctxG (by kernel_rfl) (by kernel_rfl) (by kernel_rfl) (by kernel_rfl) ?_
        refine XD.off (i := 13) (l' := (lb 18 16383)) (oA B8 [1, 1, 1, 1, 1, 0, 0] 13) QOk.ctxG (by kernel_rfl) (by kernel_rfl) (by kernel_rfl) (by kernel_rfl) ?_
        refine XD.off (i := 14) (l' := (lb 18 32767)) (oA B8 [1, 1, 1, 1, 1, 0, 0] 14) QOk.ctxG (by kernel_rfl) (by kernel_rfl) (by kernel_rfl) (by kernel_rfl) ?_
        refine XD.off (i := 15) (l' := (lb 18 65535)) (oA B8 [1, 1, 1, 1, 1, 0, 0] 15) QOk.ctxG (by kernel_rfl) (by kernel_rfl) (by kernel_rfl) (by kernel_rfl) ?_
        refine XD.off (i := 16) (l' := (lb 18 131071)) (oA B8 [1, 1, 1, 1, 1, 0, 0] 16) QOk.ctxG (by kernel_rfl) (by kernel_rfl) (by kernel_rfl) (by kernel_rfl) ?_
        refine XD.take (i := 17) (l' := (lb 18 262143)) (oA B8 [1, 1, 1, 1, 1, 0, 0] 17) (.v (.bool false)) QOk.ctxG (by kernel_rfl) (by kernel_rfl) (by kernel_rfl) (by kernel_rfl) (by kernel_rfl) ?_
        refine XD.done (by kernel_rfl) ?_
        refine X.run 9 [0, 6, 56, 58] [] (.ops (aA B8 [1, 1, 1, 1, 1, 1, 0]) (oA B8 [1, 1, 1, 1, 1, 1, 0] 3 :: lA B8 [1, 1, 1, 1, 1, 1, 0] 4)) [.seq (cA B8 [1, 1, 1, 1, 1, 1, 1])] ⟨79, [(0, .v (.slice A1 ys1.length (c - 0))), (6, .v (.bool false)), (56, .v (.slice A1 ys1.length (c - 0))), (58, .v (.int .i64 (IntKind.i64.wrap q)))], []⟩ (by kernel_rfl) ?_
        refine X.known 58 (y := .v (.int .i64 q)) rfl (congrArg (fun z_ => AV.v (.int .i64 z_)) (wi64 (by omega) (by omega))) ?_
        refine X.callG (f := 40) (l := [.v (.slice A1 ys1.length (c - 0)), .v (.int .i64 q)]) [.slice A1 ys1.length (c - 0), .int .i64 q] 559 (by kernel_rfl) (by kernel_rfl) (by kernel_rfl) (Fill_ok _ _ ys1 q _ hr1 hc1 (by omega) (by omega)) ?_
        rintro v77 G77 rows77 hG77 ⟨ea77, eb77⟩
        replace hb := hb.mono hG77.le
        replace hr1 := hr1.mono hG77.le
        replace hr3 := hr3.mono hG77.le
        replace hr4 := hr4.mono hG77.le
        by_cases hok77 : (0 ≤ q ∧ q % 2 = 0 ∧ q + 2 ≤ (ys1.length : Int))
        · -- filled: True
          obtain ⟨A77, c77, rfl, hc77, rfl⟩ := eb77 hok77
          clear ea77 eb77
          refine X.tellR [559] (R' := [(559, ⟨5, 1, .slice A77 ys1.length c77, ys1.length, (filled ys1 q).map (Value.int .u8)⟩)]) rfl ?_
          have hbf77 := row_bytes hr1
          refine X.run 18 [6, 9, 64, 70] [] (.ops (aA B8 [1, 1, 1, 1, 1, 1, 1, 0]) (oA B8 [1, 1, 1, 1, 1, 1, 1, 0] 9 :: lA B8 [1, 1, 1, 1, 1, 1, 1, 0] 10)) [.seq (cA B8 [1, 1, 1, 1, 1, 1, 1, 1])] ⟨79, [(6, .v (.bool false)), (9, .v (.slice A77 ys1.length c77)), (64, .v (.bool false)), (70, .v (.bool (((ys1.length : Nat) : Int) == ((ys1.length : Nat) : Int))))], []⟩ (by kernel_rfl) ?_
          refine X.isTrue 70 rfl (by simp) ?_
          refine X.run 1 [6, 64, 70, 71] [] (.ops (aA B8 [1, 1, 1, 1, 1, 1, 1, 0]) (oA B8 [1, 1, 1, 1, 1, 1, 1, 0] 10 :: lA B8 [1, 1, 1, 1, 1, 1, 1, 0] 11)) [.seq (cA B8 [1, 1, 1, 1, 1, 1, 1, 1])] ⟨79, [(6, .v (.bool false)), (64, .v (.bool false)), (70, .v (.bool true)), (71, .v (.slice A77 ys1.length c77))], []⟩ (by kernel_rfl) ?_
          refine X.lit 72 22 1 1 [.slice A77 ys1.length c77] (by kernel_rfl) (fun g => by kernel_rfl) ?_
          intro A78
          refine X.run 0 [6, 64, 70, 72] [] (.ops (aA B8 [1, 1, 1, 1, 1, 1, 1, 0]) (oA B8 [1, 1, 1, 1, 1, 1, 1, 0] 11 :: lA B8 [1, 1, 1, 1, 1, 1, 1, 0] 12)) [.seq (cA B8 [1, 1, 1, 1, 1, 1, 1, 1])] ⟨79, [(6, .v (.bool false)), (64, .v (.bool false)), (70, .v (.bool true)), (72, .v (.slice A78 1 1))], []⟩ (by kernel_rfl) ?_
          refine X.capLe (i := 559) (q := ⟨5, 1, .slice A77 ys1.length c77, ys1.length, (filled ys1 q).map (Value.int .u8)⟩) (n := ys1.length) (c := c77) (A := A77) rfl rfl fun hn79 hx79 => ?_
          have hl79 : (filled ys1 q).length = ys1.length := by simp [filled]
          have hb79 : isBytes (filled ys1 q) := by unfold filled; exact bytes_set (bytes_set (bytes_set (bytes_set hbf77 (by omega)) (by omega)) (by rw [u8_wrap]; omega)) (by rw [u8_wrap]; omega)
          refine X.callV (f := 30) (l := [.v (.slice A78 1 1)]) (Q := fun v_ => v_ = .bool (cks (filled ys1 q) == 0)) [.slice A78 1 1] (by kernel_rfl) (by kernel_rfl) (by kernel_rfl) (fun G1_ hl_ hr_ => (Verify_ok _ _ [filled ys1 q] G1_ (rowLit (hr_ 72 _ rfl) ⟨_, _, rfl, (show (D.slice (D.int .u8)).rep G1_ (filled ys1 q) [.slice A77 ys1.length c77] by rw [← hl79]; exact rep_slice (by omega) hx79 (rowLit (hr_ 559 _ rfl) (reps_ints hb79) (by decide))), rfl⟩ (by decide)) (by simp) (by rw [List.flatten_cons, List.flatten_nil, List.append_nil]; have := wsum_le hb79 300 (by omega); omega)).mono (fun _ _ _ _ h_ => by rw [h_.1, List.flatten_cons, List.flatten_nil, List.append_nil])) ?_
          rintro _ rfl
          refine X.run 3 [6, 76] [] (.ops (aA B8 [1, 1, 1, 1, 1, 1, 1, 0]) (oA B8 [1, 1, 1, 1, 1, 1, 1, 0] 15 :: lA B8 [1, 1, 1, 1, 1, 1, 1, 0] 16)) [.seq (cA B8 [1, 1, 1, 1, 1, 1, 1, 1])] ⟨79, [(6, .v (.bool false)), (76, .v (.bool (cks (filled ys1 q) == 0)))], []⟩ (by kernel_rfl) ?_
          refine X.isTrue 76 rfl (by rw [cks_filled hbf77 hok77.1 hok77.2.1 hok77.2.2]; rfl) ?_
          refine X.callG (f := 31) (l := []) [] 0 (by kernel_rfl) (by kernel_rfl) (by kernel_rfl) (works10_ok _) ?_
          rintro v80 G80 rows80 hG80 ⟨rfl, rfl⟩
          replace hb := hb.mono hG80.le
          replace hr1 := hr1.mono hG80.le
          replace hr3 := hr3.mono hG80.le
          replace hr4 := hr4.mono hG80.le
          refine X.run 5 [6] [] (.ex .ret) [] ⟨79, [(6, .v (.bool true))], []⟩ (by kernel_rfl) ?_
          refine doneG (.inl rfl) [.bool true] [] (by kernel_rfl) rfl rfl ((hG77.trans hG80)) ?_
          -- end 15 (FT)
          exact ⟨rfl, rfl⟩
        · -- filled: False
          obtain ⟨rfl, rfl⟩ := ea77 hok77
          clear ea77 eb77
          refine X.run 24 [6, 76] [] (.ops (aA B8 [1, 1, 1, 1, 1, 1, 1, 0]) (oA B8 [1, 1, 1, 1, 1, 1, 1, 0] 15 :: lA B8 [1, 1, 1, 1, 1, 1, 1, 0] 16)) [.seq (cA B8 [1, 1, 1, 1, 1, 1, 1, 1])] ⟨79, [(6, .v (.bool false)), (76, .v (.bool true))], []⟩ (by kernel_rfl) ?_
          refine X.callG (f := 31) (l := []) [] 0 (by kernel_rfl) (by kernel_rfl) (by kernel_rfl) (works10_ok _) ?_
          rintro v81 G81 rows81 hG81 ⟨rfl, rfl⟩
          replace hb := hb.mono hG81.le
          replace hr1 := hr1.mono hG81.le
          replace hr3 := hr3.mono hG81.le
          replace hr4 := hr4.mono hG81.le
          refine X.run 5 [6] [] (.ex .ret) [] ⟨79, [(6, .v (.bool true))], []⟩ (by kernel_rfl) ?_
          refine doneG (.inl rfl) [.bool true] [] (by kernel_rfl) rfl rfl ((hG77.trans hG81)) ?_
          -- end 16 (FF)
          exact ⟨rfl, rfl⟩
  · -- 9 first
    refine X.lit 30 22 1 1 [.slice A1 ys1.length (c - 0)] (by kernel_rfl) (fun g => by kernel_rfl) ?_
    intro A82
    refine X.back ⟨trivial, Le.refl _, rfl, ?_⟩
    refine XD.norm [0, 2, 6, 7, 23, 26, 30] [] ⟨79, [(0, .v (.slice A1 ys1.length (c - 0))), (2, .v (.int .u8 q)), (6, .v (.bool false)), (7, .v (.int .i64 (min k ((ys1.length : Nat) : Int)))), (23, .v (.slice A3 ys3.length ((c - 0) - 0))), (26, .v (.slice A4 ys4.length ((c - 0) - ((min k ((ys1.length : Nat) : Int)).toNat)))), (30, .v (.slice A82 1 1))], []⟩ (by kernel_rfl) trivial ?_
    refine XD.one (i := 6) (l' := (lb 12 895)) (oA B8 [1, 1, 1, 0, 0] 6) (by kernel_rfl) (by kernel_rfl) (by kernel_rfl) ?_
    refine X.lit 27 22 1 3 [.slice A3 ys3.length ((c - 0) - 0), .slice none 0 0, .slice A4 ys4.length ((c - 0) - ((min k ((ys1.length : Nat) : Int)).toNat))] (by kernel_rfl) (fun g => by kernel_rfl) ?_
    intro A83
    refine X.back ⟨trivial, Le.refl _, rfl, ?_⟩
    refine XD.norm [0, 2, 6, 7, 27, 30] [] ⟨79, [(0, .v (.slice A1 ys1.length (c - 0))), (2, .v (.int .u8 q)), (6, .v (.bool false)), (7, .v (.int .i64 (min k ((ys1.length : Nat) : Int)))), (27, .v (.slice A83 3 3)), (30, .v (.slice A82 1 1))], []⟩ (by kernel_rfl) trivial ?_
    refine XD.one (i := 7) (l' := (lb 12 1023)) (oA B8 [1, 1, 1, 0, 0] 7) (by kernel_rfl) (by kernel_rfl) (by kernel_rfl) ?_
    have hB84 : ∀ p_ ∈ ([ys3, [], ys4] : List (List Int)), isBytes p_ := by intro p_ hp_; simp only [List.mem_cons, List.not_mem_nil, or_false] at hp_; rcases hp_ with rfl | rfl | rfl; all_goals first | exact (fun _ h_ => absurd h_ (List.not_mem_nil)) | exact row_bytes hr3 | exact row_bytes hr4
    have hL84 : ([ys3, [], ys4] : List (List Int)).flatten.length ≤ 600 := by simp only [List.flatten_cons, List.flatten_nil, List.length_append, List.length_nil]; omega
    refine X.callV (f := 28) (l := [.v (.slice A83 3 3)]) (Q := fun v_ => v_ = .int .u16 (cks ([ys3, [], ys4]).flatten)) [.slice A83 3 3] (by kernel_rfl) (by kernel_rfl) (by kernel_rfl) (fun G1_ hl_ hr_ => (Sum_ok _ _ [ys3, [], ys4] G1_ (rowLit (hr_ 27 _ rfl) (⟨_, _, rfl, rep_slice hc3 hm3 (hr3.mono hl_), ⟨_, _, rfl, ⟨none, 0, rfl, Nat.le_refl _, Nat.zero_le _, rowAt.nil _ _ _⟩, ⟨_, _, rfl, rep_slice hc4 hm4 (hr4.mono hl_), rfl⟩⟩⟩) (by decide)) (by simp) (by have := wsum_le (bytes_flat hB84) 600 hL84; omega)).mono (fun _ _ _ _ h_ => h_.1)) ?_
    rintro _ rfl
    refine X.back ⟨trivial, Le.refl _, rfl, ?_⟩
    refine XD.norm [0, 2, 6, 7, 28, 30] [] ⟨79, [(0, .v (.slice A1 ys1.length (c - 0))), (2, .v (.int .u8 q)), (6, .v (.bool false)), (7, .v (.int .i64 (min k ((ys1.length : Nat) : Int)))), (28, .v (.int .u16 (cks ([ys3, [], ys4]).flatten))), (30, .v (.slice A82 1 1))], []⟩ (by kernel_rfl) trivial ?_
    refine XD.one (i := 10) (l' := (lb 12 2047)) (oA B8 [1, 1, 1, 0, 0] 10) (by kernel_rfl) (by kernel_rfl) (by kernel_rfl) ?_
    have hB85 : ∀ p_ ∈ ([ys1] : List (List Int)), isBytes p_ := by intro p_ hp_; simp only [List.mem_cons, List.not_mem_nil, or_false] at hp_; rcases hp_ with rfl; all_goals first | exact (fun _ h_ => absurd h_ (List.not_mem_nil)) | exact row_bytes hr1
    have hL85 : ([ys1] : List (List Int)).flatten.length ≤ 600 := by simp only [List.flatten_cons, List.flatten_nil, List.length_append, List.length_nil]; omega
    refine X.callV (f := 28) (l := [.v (.slice A82 1 1)]) (Q := fun v_ => v_ = .int .u16 (cks ([ys1]).flatten)) [.slice A82 1 1] (by kernel_rfl) (by kernel_rfl) (by kernel_rfl) (fun G1_ hl_ hr_ => (Sum_ok _ _ [ys1] G1_ (rowLit (hr_ 30 _ rfl) (⟨_, _, rfl, rep_slice hc1 hm1 (hr1.mono hl_), rfl⟩) (by decide)) (by simp) (by have := wsum_le (bytes_flat hB85) 600 hL85; omega)).mono (fun _ _ _ _ h_ => h_.1)) ?_
    rintro _ rfl
    refine X.back ⟨trivial, Le.refl _, rfl, ?_⟩
    refine XD.take (i := 11) (l' := (lb 12 4095)) (oA B8 [1, 1, 1, 0, 0] 11) (.v (.bool ((cks ([ys3, [], ys4]).flatten) != (cks ([ys1]).flatten)))) QOk.ctxG (by kernel_rfl) (by kernel_rfl) (by kernel_rfl) (by kernel_rfl) (by kernel_rfl) ?_
    refine XD.done (by kernel_rfl) ?_
    refine X.run 1 [0, 2, 6, 7, 32] [] (.code (cA B8 [1, 1, 1, 0, 1])) [.seq (cA B8 [1, 1, 1, 1])] ⟨79, [(0, .v (.slice A1 ys1.length (c - 0))), (2, .v (.int .u8 q)), (6, .v (.bool false)), (7, .v (.int .i64 (min k ((ys1.length : Nat) : Int)))), (32, .v (.bool ((cks ([ys3, [], ys4]).flatten) != (cks ([ys1]).flatten))))], []⟩ (by kernel_rfl) ?_
    refine X.isFalse 32 rfl (by rw [← hys3, ← hys4, cks_parts (l := ys1) _ (by omega)]; simp) ?_
    refine X.run 8 [0, 2, 6, 33, 35] [] (.ops (aA B8 [1, 1, 1, 1, 0]) (oA B8 [1, 1, 1, 1, 0] 3 :: lA B8 [1, 1, 1, 1, 0] 4)) [.seq (cA B8 [1, 1, 1, 1, 1])] ⟨79, [(0, .v (.slice A1 ys1.length (c - 0))), (2, .v (.int .u8 q)), (6, .v (.bool false)), (33, .v (.int .i64 (min k ((ys1.length : Nat) : Int)))), (35, .v (.int .i64 (Int.tmod (min k ((ys1.length : Nat) : Int)) 2)))], []⟩ (by kernel_rfl) ?_
    refine X.known 35 (y := .v (.int .i64 ((min k ((ys1.length : Nat) : Int)) % 2))) rfl (congrArg (fun z_ => AV.v (.int .i64 z_)) (Int.tmod_eq_emod_of_nonneg (by omega))) ?_
    refine X.run 1 [0, 2, 6, 36] [] (.ops (aA B8 [1, 1, 1, 1, 0]) (oA B8 [1, 1, 1, 1, 0] 4 :: lA B8 [1, 1, 1, 1, 0] 5)) [.seq (cA B8 [1, 1, 1, 1, 1])] ⟨79, [(0, .v (.slice A1 ys1.length (c - 0))), (2, .v (.int .u8 q)), (6, .v (.bool false)), (36, .v (.int .i64 (IntKind.i64.wrap ((min k ((ys1.length : Nat) : Int)) - ((min k ((ys1.length : Nat) : Int)) % 2)))))], []⟩ (by kernel_rfl) ?_
    refine X.known 36 (y := .v (.int .i64 ((min k ((ys1.length : Nat) : Int)) - ((min k ((ys1.length : Nat) : Int)) % 2)))) rfl (congrArg (fun z_ => AV.v (.int .i64 z_)) (wi64 (by omega) (by omega))) ?_
    refine X.run 5 [0, 2, 6, 8] [] (.code (cA B8 [1, 1, 1, 1, 1, 0, 0])) [.seq (cA B8 [1, 1, 1, 1, 1, 0, 1]), .seq (cA B8 [1, 1, 1, 1, 1, 1])] ⟨79, [(0, .v (.slice A1 ys1.length (c - 0))), (2, .v (.int .u8 q)), (6, .v (.bool false)), (8, .v (.int .i64 ((min k ((ys1.length : Nat) : Int)) - ((min k ((ys1.length : Nat) : Int)) % 2))))], []⟩ (by kernel_rfl) ?_
    have hb_d86 := hb
    have hr1_d86 := hr1
    have hr3_d86 := hr3
    have hr4_d86 := hr4
    refine XD.open (id := 6) (arr := aA B8 [1, 1, 1, 1, 1, 0, 0]) 18 [] [] [] (by kernel_rfl) (by kernel_rfl) (by kernel_rfl) (by kernel_rfl) (by kernel_rfl) trivial (by simp) rfl (fun ρ0 => ?_)
    refine XD.take (i := 0) (l' := (lb 18 1)) (oA B8 [1, 1, 1, 1, 1, 0, 0] 0) (.v (.slice A1 ys1.length (c - 0))) QOk.ctxG (by kernel_rfl) (by kernel_rfl) (by kernel_rfl) (by kernel_rfl) (by kernel_rfl) ?_
    refine XD.take (i := 1) (l' := (lb 18 3)) (oA B8 [1, 1, 1, 1, 1, 0, 0] 1) (.v (.int .i64 ((ys1.length : Nat) : Int))) QOk.ctxG (by kernel_rfl) (by kernel_rfl) (by kernel_rfl) (by kernel_rfl) (by kernel_rfl) ?_
    refine XD.take (i := 2) (l' := (lb 18 7)) (oA B8 [1, 1, 1, 1, 1, 0, 0] 2) (.v (.int .i64 (Int.tmod ((ys1.length : Nat) : Int) 2))) QOk.ctxG (by kernel_rfl) (by kernel_rfl) (by kernel_rfl) (by kernel_rfl) (by kernel_rfl) ?_
    refine XD.take (i := 3) (l' := (lb 18 15)) (oA B8 [1, 1, 1, 1, 1, 0, 0] 3) (.v (.bool ((Int.tmod ((ys1.length : Nat) : Int) 2) == 0))) QOk.ctxG (by kernel_rfl) (by kernel_rfl) (by kernel_rfl) (by kernel_rfl) (by kernel_rfl) ?_
    refine XD.take (i := 4) (l' := (lb 18 31)) (oA B8 [1, 1, 1, 1, 1, 0, 0] 4) (.v (.bool ((Int.tmod ((ys1.length : Nat) : Int) 2) == 0))) QOk.ctxG (by kernel_rfl) (by kernel_rfl) (by kernel_rfl) (by kernel_rfl) (by kernel_rfl) ?_
    refine XD.split 41 rfl (fun h87 => ?_) (fun h87 => ?_)
    · -- slot 41: (Int.tmod ((ys1.length : Nat) : Int) 2) == 0 is True
      replace h87 : (Int.tmod ((ys1.length : Nat) : Int) 2) = 0 := by simpa using h87
      have htm_ : Int.tmod ((ys1.length : Nat) : Int) 2 = ((ys1.length : Nat) : Int) % 2 := Int.tmod_eq_emod_of_nonneg (by omega)
      refine XD.take (i := 5) (l' := (lb 18 63)) (oA B8 [1, 1, 1, 1, 1, 0, 0] 5) (.v (.slice A1 ys1.length (c - 0))) QOk.ctxG (by kernel_rfl) (by kernel_rfl) (by kernel_rfl) (by kernel_rfl) (by kernel_rfl) ?_
      refine XD.take (i := 6) (l' := (lb 18 127)) (oA B8 [1, 1, 1, 1, 1, 0, 0] 6) (.v (.int .i64 ((min k ((ys1.length : Nat) : Int)) - ((min k ((ys1.length : Nat) : Int)) % 2)))) QOk.ctxG (by kernel_rfl) (by kernel_rfl) (by kernel_rfl) (by kernel_rfl) (by kernel_rfl) ?_
      have hlo88 : ((min k ((ys1.length : Nat) : Int)) - ((min k ((ys1.length : Nat) : Int)) % 2)).toNat ≤ ys1.length := by omega
      have hhi88 : ys1.length ≤ ys1.length := by omega
      refine XD.cut (i := 7) (l' := (lb 18 255)) (o := (oA B8 [1, 1, 1, 1, 1, 0, 0] 7)) (t := 22) (e := 5) (sz := 1) (n := ys1.length) (c := c - 0) (A := A1) (x := .tmp 42) (l0 := (some (.tmp 43))) (h := none) (lv := (some (.int .i64 ((min k ((ys1.length : Nat) : Int)) - ((min k ((ys1.length : Nat) : Int)) % 2))))) (hv := none) (((min k ((ys1.length : Nat) : Int)) - ((min k ((ys1.length : Nat) : Int)) % 2)).toNat) ys1.length QOk.ctxG (by kernel_rfl) (by kernel_rfl) (by kernel_rfl) (by kernel_rfl) (by kernel_rfl) (by kernel_rfl) (by kernel_rfl) (by kernel_rfl) (by kernel_rfl) (⟨_, _, rfl, by omega, rfl⟩) (rfl) hlo88 (Nat.le_trans hhi88 hc1) (by kernel_rfl) ?_
      obtain ⟨A88, hA88⟩ : ∃ A_, cutA A1 (c - 0) (((min k ((ys1.length : Nat) : Int)) - ((min k ((ys1.length : Nat) : Int)) % 2)).toNat) 1 = A_ := ⟨_, rfl⟩
      obtain ⟨ys88, hys88⟩ : ∃ l_, (ys1.take ys1.length).drop (((min k ((ys1.length : Nat) : Int)) - ((min k ((ys1.length : Nat) : Int)) % 2)).toNat) = l_ := ⟨_, rfl⟩
      have hr88 : rowAt (D.int .u8) G (cutA A1 (c - 0) (((min k ((ys1.length : Nat) : Int)) - ((min k ((ys1.length : Nat) : Int)) % 2)).toNat) 1) ((ys1.take ys1.length).drop (((min k ((ys1.length : Nat) : Int)) - ((min k ((ys1.length : Nat) : Int)) % 2)).toNat)) := rowAt_cut hr1 hlo88 hhi88 hc1
      have hl88 : ys1.length - (((min k ((ys1.length : Nat) : Int)) - ((min k ((ys1.length : Nat) : Int)) % 2)).toNat) = ys88.length := by rw [← hys88, List.length_drop, List.length_take]; omega
      have hc88 : ys88.length ≤ (c - 0) - (((min k ((ys1.length : Nat) : Int)) - ((min k ((ys1.length : Nat) : Int)) % 2)).toNat) := by omega
      have hm88 : (c - 0) - (((min k ((ys1.length : Nat) : Int)) - ((min k ((ys1.length : Nat) : Int)) % 2)).toNat) ≤ maxLen := Nat.le_trans (Nat.sub_le _ _) hm1
      rw [hys88, show cutA A1 (c - 0) (((min k ((ys1.length : Nat) : Int)) - ((min k ((ys1.length : Nat) : Int)) % 2)).toNat) _ = A88 from hA88] at hr88
      rw [hA88, hl88]
      refine XD.take (i := 8) (l' := (lb 18 511)) (oA B8 [1, 1, 1, 1, 1, 0, 0] 8) (.v (.slice A1 ys1.length (c - 0))) QOk.ctxG (by kernel_rfl) (by kernel_rfl) (by kernel_rfl) (by kernel_rfl) (by kernel_rfl) ?_
      refine XD.take (i := 9) (l' := (lb 18 1023)) (oA B8 [1, 1, 1, 1, 1, 0, 0] 9) (.v (.int .i64 ((min k ((ys1.length : Nat) : Int)) - ((min k ((ys1.length : Nat) : Int)) % 2)))) QOk.ctxG (by kernel_rfl) (by kernel_rfl) (by kernel_rfl) (by kernel_rfl) (by kernel_rfl) ?_
      have hlo89 : 0 ≤ ((min k ((ys1.length : Nat) : Int)) - ((min k ((ys1.length : Nat) : Int)) % 2)).toNat := by omega
      have hhi89 : ((min k ((ys1.length : Nat) : Int)) - ((min k ((ys1.length : Nat) : Int)) % 2)).toNat ≤ ys1.length := by omega
      refine XD.cut (i := 10) (l' := (lb 18 2047)) (o := (oA B8 [1, 1, 1, 1, 1, 0, 0] 10)) (t := 22) (e := 5) (sz := 1) (n := ys1.length) (c := c - 0) (A := A1) (x := .tmp 45) (l0 := none) (h := (some (.tmp 46))) (lv := none) (hv := (some (.int .i64 ((min k ((ys1.length : Nat) : Int)) - ((min k ((ys1.length : Nat) : Int)) % 2))))) 0 (((min k ((ys1.length : Nat) : Int)) - ((min k ((ys1.length : Nat) : Int)) % 2)).toNat) QOk.ctxG (by kernel_rfl) (by kernel_rfl) (by kernel_rfl) (by kernel_rfl) (by kernel_rfl) (by kernel_rfl) (by kernel_rfl) (by kernel_rfl) (by kernel_rfl) (rfl) (⟨_, _, rfl, by omega, rfl⟩) hlo89 (Nat.le_trans hhi89 hc1) (by kernel_rfl) ?_
      obtain ⟨A89, hA89⟩ : ∃ A_, cutA A1 (c - 0) 0 1 = A_ := ⟨_, rfl⟩
      obtain ⟨ys89, hys89⟩ : ∃ l_, (ys1.take (((min k ((ys1.length : Nat) : Int)) - ((min k ((ys1.length : Nat) : Int)) % 2)).toNat)).drop 0 = l_ := ⟨_, rfl⟩
      have hr89 : rowAt (D.int .u8) G (cutA A1 (c - 0) 0 1) ((ys1.take (((min k ((ys1.length : Nat) : Int)) - ((min k ((ys1.length : Nat) : Int)) % 2)).toNat)).drop 0) := rowAt_cut hr1 hlo89 hhi89 hc1
      have hl89 : (((min k ((ys1.length : Nat) : Int)) - ((min k ((ys1.length : Nat) : Int)) % 2)).toNat) - 0 = ys89.length := by rw [← hys89, List.length_drop, List.length_take]; omega
      have hc89 : ys89.length ≤ (c - 0) - 0 := by omega
      have hm89 : (c - 0) - 0 ≤ maxLen := Nat.le_trans (Nat.sub_le _ _) hm1
      rw [hys89, show cutA A1 (c - 0) 0 _ = A89 from hA89] at hr89
      rw [hA89, hl89]
      refine XD.take (i := 13) (l' := (lb 18 10239)) (oA B8 [1, 1, 1, 1, 1, 0, 0] 13) (.v (.slice A1 ys1.length (c - 0))) QOk.ctxG (by kernel_rfl) (by kernel_rfl) (by kernel_rfl) (by kernel_rfl) (by kernel_rfl) ?_
      refine XD.norm [0, 2, 6, 41, 44, 47, 50] [] ⟨79, [(0, .v (.slice A1 ys1.length (c - 0))), (2, .v (.int .u8 q)), (6, .v (.bool false)), (41, .v (.bool true)), (44, .v (.slice A88 ys88.length ((c - 0) - (((min k ((ys1.length : Nat) : Int)) - ((min k ((ys1.length : Nat) : Int)) % 2)).toNat)))), (47, .v (.slice A89 ys89.length ((c - 0) - 0))), (50, .v (.slice A1 ys1.length (c - 0)))], []⟩ (by kernel_rfl) trivial ?_
      refine XD.two (i := 11) (j := 14) (li := (lb 18 12287)) (lj := (lb 18 26623)) (oA B8 [1, 1, 1, 1, 1, 0, 0] 11) (oA B8 [1, 1, 1, 1, 1, 0, 0] 14) (by kernel_rfl) (by kernel_rfl) (by kernel_rfl) (by kernel_rfl) (by kernel_rfl) ?_ ?_
      · -- 11 first
        refine X.lit 48 22 1 2 [.slice A88 ys88.length ((c - 0) - (((min k ((ys1.length : Nat) : Int)) - ((min k ((ys1.length : Nat) : Int)) % 2)).toNat)), .slice A89 ys89.length ((c - 0) - 0)] (by kernel_rfl) (fun g => by kernel_rfl) ?_
        intro A90
        refine X.back ⟨trivial, Le.refl _, rfl, ?_⟩
        refine XD.norm [0, 2, 6, 41, 48, 50] [] ⟨79, [(0, .v (.slice A1 ys1.length (c - 0))), (2, .v (.int .u8 q)), (6, .v (.bool false)), (41, .v (.bool true)), (48, .v (.slice A90 2 2)), (50, .v (.slice A1 ys1.length (c - 0)))], []⟩ (by kernel_rfl) trivial ?_
        refine XD.two (i := 12) (j := 14) (li := (lb 18 16383)) (lj := (lb 18 28671)) (oA B8 [1, 1, 1, 1, 1, 0, 0] 12) (oA B8 [1, 1, 1, 1, 1, 0, 0] 14) (by kernel_rfl) (by kernel_rfl) (by kernel_rfl) (by kernel_rfl) (by kernel_rfl) ?_ ?_
        · -- 12 first
          have hB91 : ∀ p_ ∈ ([ys88, ys89] : List (List Int)), isBytes p_ := by intro p_ hp_; simp only [List.mem_cons, List.not_mem_nil, or_false] at hp_; rcases hp_ with rfl | rfl; all_goals first | exact (fun _ h_ => absurd h_ (List.not_mem_nil)) | exact row_bytes hr88 | exact row_bytes hr89
          have hL91 : ([ys88, ys89] : List (List Int)).flatten.length ≤ 600 := by simp only [List.flatten_cons, List.flatten_nil, List.length_append, List.length_nil]; omega
          refine X.callV (f := 28) (l := [.v (.slice A90 2 2)]) (Q := fun v_ => v_ = .int .u16 (cks ([ys88, ys89]).flatten)) [.slice A90 2 2] (by kernel_rfl) (by kernel_rfl) (by kernel_rfl) (fun G1_ hl_ hr_ => (Sum_ok _ _ [ys88, ys89] G1_ (rowLit (hr_ 48 _ rfl) (⟨_, _, rfl, rep_slice hc88 hm88 (hr88.mono hl_), ⟨_, _, rfl, rep_slice hc89 hm89 (hr89.mono hl_), rfl⟩⟩) (by decide)) (by simp) (by have := wsum_le (bytes_flat hB91) 600 hL91; omega)).mono (fun _ _ _ _ h_ => h_.1)) ?_
          rintro _ rfl
          refine X.back ⟨trivial, Le.refl _, rfl, ?_⟩
          refine XD.norm [0, 2, 6, 41, 49, 50] [] ⟨79, [(0, .v (.slice A1 ys1.length (c - 0))), (2, .v (.int .u8 q)), (6, .v (.bool false)), (41, .v (.bool true)), (49, .v (.int .u16 (cks ([ys88, ys89]).flatten))), (50, .v (.slice A1 ys1.length (c - 0)))], []⟩ (by kernel_rfl) trivial ?_
          refine XD.one (i := 14) (l' := (lb 18 32767)) (oA B8 [1, 1, 1, 1, 1, 0, 0] 14) (by kernel_rfl) (by kernel_rfl) (by kernel_rfl) ?_
          refine X.lit 51 22 1 1 [.slice A1 ys1.length (c - 0)] (by kernel_rfl) (fun g => by kernel_rfl) ?_
          intro A92
          refine X.back ⟨trivial, Le.refl _, rfl, ?_⟩
          refine XD.norm [0, 2, 6, 41, 49, 51] [] ⟨79, [(0, .v (.slice A1 ys1.length (c - 0))), (2, .v (.int .u8 q)), (6, .v (.bool false)), (41, .v (.bool true)), (49, .v (.int .u16 (cks ([ys88, ys89]).flatten))), (51, .v (.slice A92 1 1))], []⟩ (by kernel_rfl) trivial ?_
          refine XD.one (i := 15) (l' := (lb 18 65535)) (oA B8 [1, 1, 1, 1, 1, 0, 0] 15) (by kernel_rfl) (by kernel_rfl) (by kernel_rfl) ?_
          have hB93 : ∀ p_ ∈ ([ys1] : List (List Int)), isBytes p_ := by intro p_ hp_; simp only [List.mem_cons, List.not_mem_nil, or_false] at hp_; rcases hp_ with rfl; all_goals first | exact (fun _ h_ => absurd h_ (List.not_mem_nil)) | exact row_bytes hr1
          have hL93 : ([ys1] : List (List Int)).flatten.length ≤ 600 := by simp only [List.flatten_cons, List.flatten_nil, List.length_append, List.length_nil]; omega
          refine X.callV (f := 28) (l := [.v (.slice A92 1 1)]) (Q := fun v_ => v_ = .int .u16 (cks ([ys1]).flatten)) [.slice A92 1 1] (by kernel_rfl) (by kernel_rfl) (by kernel_rfl) (fun G1_ hl_ hr_ => (Sum_ok _ _ [ys1] G1_ (rowLit (hr_ 51 _ rfl) (⟨_, _, rfl, rep_slice hc1 hm1 (hr1.mono hl_), rfl⟩) (by decide)) (by simp) (by have := wsum_le (bytes_flat hB93) 600 hL93; omega)).mono (fun _ _ _ _ h_ => h_.1)) ?_
          rintro _ rfl
          refine X.back ⟨trivial, Le.refl _, rfl, ?_⟩
          refine XD.take (i := 16) (l' := (lb 18 131071)) (oA B8 [1, 1, 1, 1, 1, 0, 0] 16) (.v (.bool ((cks ([ys88, ys89]).flatten) != (cks ([ys1]).flatten)))) QOk.ctxG (by kernel_rfl) (by kernel_rfl) (by kernel_rfl) (by kernel_rfl) (by kernel_rfl) ?_
          refine XD.take (i := 17) (l' := (lb 18 262143)) (oA B8 [1, 1, 1, 1, 1, 0, 0] 17) (.v (.bool ((cks ([ys88, ys89]).flatten) != (cks ([ys1]).flatten)))) QOk.ctxG (by kernel_rfl) (by kernel_rfl) (by kernel_rfl) (by kernel_rfl) (by kernel_rfl) ?_
          refine XD.done (by kernel_rfl) ?_
          refine X.run 1 [0, 2, 6, 54] [] (.code (cA B8 [1, 1, 1, 1, 1, 0, 1])) [.seq (cA B8 [1, 1, 1, 1, 1, 1])] ⟨79, [(0, .v (.slice A1 ys1.length (c - 0))), (2, .v (.int .u8 q)), (6, .v (.bool false)), (54, .v (.bool ((cks ([ys88, ys89]).flatten) != (cks ([ys1]).flatten))))], []⟩ (by kernel_rfl) ?_
          refine X.isFalse 54 rfl (by rw [← hys88, ← hys89, cks_swap (l := ys1) _ (by omega) (by omega) (by omega)]; simp) ?_
          refine X.run 8 [0, 6, 56, 58] [] (.ops (aA B8 [1, 1, 1, 1, 1, 1, 0]) (oA B8 [1, 1, 1, 1, 1, 1, 0] 3 :: lA B8 [1, 1, 1, 1, 1, 1, 0] 4)) [.seq (cA B8 [1, 1, 1, 1, 1, 1, 1])] ⟨79, [(0, .v (.slice A1 ys1.length (c - 0))), (6, .v (.bool false)), (56, .v (.slice A1 ys1.length (c - 0))), (58, .v (.int .i64 (IntKind.i64.wrap q)))], []⟩ (by kernel_rfl) ?_
          refine X.known 58 (y := .v (.int .i64 q)) rfl (congrArg (fun z_ => AV.v (.int .i64 z_)) (wi64 (by omega) (by omega))) ?_
          refine X.callG (f := 40) (l := [.v (.slice A1 ys1.length (c - 0)), .v (.int .i64 q)]) [.slice A1 ys1.length (c - 0), .int .i64 q] 559 (by kernel_rfl) (by kernel_rfl) (by kernel_rfl) (Fill_ok _ _ ys1 q _ hr1 hc1 (by omega) (by omega)) ?_
          rintro v94 G94 rows94 hG94 ⟨ea94, eb94⟩
          replace hb := hb.mono hG94.le
          replace hr1 := hr1.mono hG94.le
          replace hr3 := hr3.mono hG94.le
          replace hr4 := hr4.mono hG94.le
          replace hr88 := hr88.mono hG94.le
          replace hr89 := hr89.mono hG94.le
          by_cases hok94 : (0 ≤ q ∧ q % 2 = 0 ∧ q + 2 ≤ (ys1.length : Int))
          · -- filled: True
            obtain ⟨A94, c94, rfl, hc94, rfl⟩ := eb94 hok94
            clear ea94 eb94
            refine X.tellR [559] (R' := [(559, ⟨5, 1, .slice A94 ys1.length c94, ys1.length, (filled ys1 q).map (Value.int .u8)⟩)]) rfl ?_
            have hbf94 := row_bytes hr1
            refine X.run 18 [6, 9, 64, 70] [] (.ops (aA B8 [1, 1, 1, 1, 1, 1, 1, 0]) (oA B8 [1, 1, 1, 1, 1, 1, 1, 0] 9 :: lA B8 [1, 1, 1, 1, 1, 1, 1, 0] 10)) [.seq (cA B8 [1, 1, 1, 1, 1, 1, 1, 1])] ⟨79, [(6, .v (.bool false)), (9, .v (.slice A94 ys1.length c94)), (64, .v (.bool false)), (70, .v (.bool (((ys1.length : Nat) : Int) == ((ys1.length : Nat) : Int))))], []⟩ (by kernel_rfl) ?_
            refine X.isTrue 70 rfl (by simp) ?_
            refine X.run 1 [6, 64, 70, 71] [] (.ops (aA B8 [1, 1, 1, 1, 1, 1, 1, 0]) (oA B8 [1, 1, 1, 1, 1, 1, 1, 0] 10 :: lA B8 [1, 1, 1, 1, 1, 1, 1, 0] 11)) [.seq (cA B8 [1, 1, 1, 1, 1, 1, 1, 1])] ⟨79, [(6, .v (.bool false)), (64, .v (.bool false)), (70, .v (.bool true)), (71, .v (.slice A94 ys1.length c94))], []⟩ (by kernel_rfl) ?_
            refine X.lit 72 22 1 1 [.slice A94 ys1.length c94] (by kernel_rfl) (fun g => by kernel_rfl) ?_
            intro A95
            refine X.run 0 [6, 64, 70, 72] [] (.ops (aA B8 [1, 1, 1, 1, 1, 1, 1, 0]) (oA B8 [1, 1, 1, 1, 1, 1, 1, 0] 11 :: lA B8 [1, 1, 1, 1, 1, 1, 1, 0] 12)) [.seq (cA B8 [1, 1, 1, 1, 1, 1, 1, 1])] ⟨79, [(6, .v (.bool false)), (64, .v (.bool false)), (70, .v (.bool true)), (72, .v (.slice A95 1 1))], []⟩ (by kernel_rfl) ?_
            refine X.capLe (i := 559) (q := ⟨5, 1, .slice A94 ys1.length c94, ys1.length, (filled ys1 q).map (Value.int .u8)⟩) (n := ys1.length) (c := c94) (A := A94) rfl rfl fun hn96 hx96 => ?_
            have hl96 : (filled ys1 q).length = ys1.length := by simp [filled]
            have hb96 : isBytes (filled ys1 q) := by unfold filled; exact bytes_set (bytes_set (bytes_set (bytes_set hbf94 (by omega)) (by omega)) (by rw [u8_wrap]; omega)) (by rw [u8_wrap]; omega)
            refine X.callV (f := 30) (l := [.v (.slice A95 1 1)]) (Q := fun v_ => v_ = .bool (cks (filled ys1 q) == 0)) [.slice A95 1 1] (by kernel_rfl) (by kernel_rfl) (by kernel_rfl) (fun G1_ hl_ hr_ => (Verify_ok _ _ [filled ys1 q] G1_ (rowLit (hr_ 72 _ rfl) ⟨_, _, rfl, (show (D.slice (D.int .u8)).rep G1_ (filled ys1 q) [.slice A94 ys1.length c94] by rw [← hl96]; exact rep_slice (by omega) hx96 (rowLit (hr_ 559 _ rfl) (reps_ints hb96) (by decide))), rfl⟩ (by decide)) (by simp) (by rw [List.flatten_cons, List.flatten_nil, List.append_nil]; have := wsum_le hb96 300 (by omega); omega)).mono (fun _ _ _ _ h_ => by rw [h_.1, List.flatten_cons, List.flatten_nil, List.append_nil])) ?_
            rintro _ rfl
            refine X.run 3 [6, 76] [] (.ops (aA B8 [1, 1, 1, 1, 1, 1, 1, 0]) (oA B8 [1, 1, 1, 1, 1, 1, 1, 0] 15 :: lA B8 [1, 1, 1, 1, 1, 1, 1, 0] 16)) [.seq (cA B8 [1, 1, 1, 1, 1, 1, 1, 1])] ⟨79, [(6, .v (.bool false)), (76, .v (.bool (cks (filled ys1 q) == 0)))], []⟩ (by kernel_rfl) ?_
            refine X.isTrue 76 rfl (by rw [cks_filled hbf94 hok94.1 hok94.2.1 hok94.2.2]; rfl) ?_
            refine X.callG (f := 31) (l := []) [] 0 (by kernel_rfl) (by kernel_rfl) (by kernel_rfl) (works10_ok _) ?_
            rintro v97 G97 rows97 hG97 ⟨rfl, rfl⟩
            replace hb := hb.mono hG97.le
            replace hr1 := hr1.mono hG97.le
            replace hr3 := hr3.mono hG97.le
            replace hr4 := hr4.mono hG97.le
            replace hr88 := hr88.mono hG97.le
            replace hr89 := hr89.mono hG97.le
            refine X.run 5 [6] [] (.ex .ret) [] ⟨79, [(6, .v (.bool true))], []⟩ (by kernel_rfl) ?_
            refine doneG (.inl rfl) [.bool true] [] (by kernel_rfl) rfl rfl ((hG94.trans hG97)) ?_
            -- end 17 (TT)
            exact ⟨rfl, rfl⟩
          · -- filled: False
            obtain ⟨rfl, rfl⟩ := ea94 hok94
            clear ea94 eb94
            refine X.run 24 [6, 76] [] (.ops (aA B8 [1, 1, 1, 1, 1, 1, 1, 0]) (oA B8 [1, 1, 1, 1, 1, 1, 1, 0] 15 :: lA B8 [1, 1, 1, 1, 1, 1, 1, 0] 16)) [.seq (cA B8 [1, 1, 1, 1, 1, 1, 1, 1])] ⟨79, [(6, .v (.bool false)), (76, .v (.bool true))], []⟩ (by kernel_rfl) ?_
            refine X.callG (f := 31) (l := []) [] 0 (by kernel_rfl) (by kernel_rfl) (by kernel_rfl) (works10_ok _) ?_
            rintro v98 G98 rows98 hG98 ⟨rfl, rfl⟩
            replace hb := hb.mono hG98.le
            replace hr1 := hr1.mono hG98.le
            replace hr3 := hr3.mono hG98.le
            replace hr4 := hr4.mono hG98.le
            replace hr88 := hr88.mono hG98.le
            replace hr89 := hr89.mono hG98.le
            refine X.run 5 [6] [] (.ex .ret) [] ⟨79, [(6, .v (.bool true))], []⟩ (by kernel_rfl) ?_
            refine doneG (.inl rfl) [.bool true] [] (by kernel_rfl) rfl rfl ((hG94.trans hG98)) ?_
            -- end 18 (TF)
            exact ⟨rfl, rfl⟩
        · -- 14 first
          refine X.lit 51 22 1 1 [.slice A1 ys1.length (c - 0)] (by kernel_rfl) (fun g => by kernel_rfl) ?_
          intro A99
          refine X.back ⟨trivial, Le.refl _, rfl, ?_⟩
          refine XD.norm [0, 2, 6, 41, 48, 51] [] ⟨79, [(0, .v (.slice A1 ys1.length (c - 0))), (2, .v (.int .u8 q)), (6, .v (.bool false)), (41, .v (.bool true)), (48, .v (.slice A90 2 2)), (51, .v (.slice A99 1 1))], []⟩ (by kernel_rfl) trivial ?_
          refine XD.one (i := 12) (l' := (lb 18 32767)) (oA B8 [1, 1, 1, 1, 1, 0, 0] 12) (by kernel_rfl) (by kernel_rfl) (by kernel_rfl) ?_
          have hB100 : ∀ p_ ∈ ([ys88, ys89] : List (List Int)), isBytes p_ := by intro p_ hp_; simp only [List.mem_cons, List.not_mem_nil, or_false] at hp_; rcases hp_ with rfl | rfl; all_goals first | exact (fun _ h_ => absurd h_ (List.not_mem_nil)) | exact row_bytes hr88 | exact row_bytes hr89
          have hL100 : ([ys88, ys89] : List (List Int)).flatten.length ≤ 600 := by simp only [List.flatten_cons, List.flatten_nil, List.length_append, List.length_nil]; omega
          refine X.callV (f := 28) (l := [.v (.slice A90 2 2)]) (Q := fun v_ => v_ = .int .u16 (cks ([ys88, ys89]).flatten)) [.slice A90 2 2] (by kernel_rfl) (by kernel_rfl) (by kernel_rfl) (fun G1_ hl_ hr_ => (Sum_ok _ _ [ys88, ys89] G1_ (rowLit (hr_ 48 _ rfl) (⟨_, _, rfl, rep_slice hc88 hm88 (hr88.mono hl_), ⟨_, _, rfl, rep_slice hc89 hm89 (hr89.mono hl_), rfl⟩⟩) (by decide)) (by simp) (by have := wsum_le (bytes_flat hB100) 600 hL100; omega)).mono (fun _ _ _ _ h_ => h_.1)) ?_
          rintro _ rfl
          refine X.back ⟨trivial, Le.refl _, rfl, ?_⟩
          refine XD.norm [0, 2, 6, 41, 49, 51] [] ⟨79, [(0, .v (.slice A1 ys1.length (c - 0))), (2, .v (.int .u8 q)), (6, .v (.bool false)), (41, .v (.bool true)), (49, .v (.int .u16 (cks ([ys88, ys89]).flatten))), (51, .v (.slice A99 1 1))], []⟩ (by kernel_rfl) trivial ?_
          refine XD.one (i := 15) (l' := (lb 18 65535)) (oA B8 [1, 1, 1, 1, 1, 0, 0] 15) (by kernel_rfl) (by kernel_rfl) (by kernel_rfl) ?_
          have hB101 : ∀ p_ ∈ ([ys1] : List (List Int)), isBytes p_ := by intro p_ hp_; simp only [List.mem_cons, List.not_mem_nil, or_false] at hp_; rcases hp_ with rfl; all_goals first | exact (fun _ h_ => absurd h_ (List.not_mem_nil)) | exact row_bytes hr1
          have hL101 : ([ys1] : List (List Int)).flatten.length ≤ 600 := by simp only [List.flatten_cons, List.flatten_nil, List.length_append, List.length_nil]; omega
          refine X.callV (f := 28) (l := [.v (.slice A99 1 1)]) (Q := fun v_ => v_ = .int .u16 (cks ([ys1]).flatten)) [.slice A99 1 1] (by kernel_rfl) (by kernel_rfl) (by kernel_rfl) (fun G1_ hl_ hr_ => (Sum_ok _ _ [ys1] G1_ (rowLit (hr_ 51 _ rfl) (⟨_, _, rfl, rep_slice hc1 hm1 (hr1.mono hl_), rfl⟩) (by decide)) (by simp) (by have := wsum_le (bytes_flat hB101) 600 hL101; omega)).mono (fun _ _ _ _ h_ => h_.1)) ?_
          rintro _ rfl
          refine X.back ⟨trivial, Le.refl _, rfl, ?_⟩
          refine XD.take (i := 16) (l' := (lb 18 131071)) (oA B8 [1, 1, 1, 1, 1, 0, 0] 16) (.v (.bool ((cks ([ys88, ys89]).flatten) != (cks ([ys1]).flatten)))) QOk.ctxG (by kernel_rfl) (by kernel_rfl) (by kernel_rfl) (by kernel_rfl) (by kernel_rfl) ?_
          refine XD.take (i := 17) (l' := (lb 18 262143)) (oA B8 [1, 1, 1, 1, 1, 0, 0] 17) (.v (.bool ((cks ([ys88, ys89]).flatten) != (cks ([ys1]).flatten)))) QOk.ctxG (by kernel_rfl) (by kernel_rfl) (by kernel_rfl) (by kernel_rfl) (by kernel_rfl) ?_
          refine XD.done (by kernel_rfl) ?_
          refine X.run 1 [0, 2, 6, 54] [] (.code (cA B8 [1, 1, 1, 1, 1, 0, 1])) [.seq (cA B8 [1, 1, 1, 1, 1, 1])] ⟨79, [(0, .v (.slice A1 ys1.length (c - 0))), (2, .v (.int .u8 q)), (6, .v (.bool false)), (54, .v (.bool ((cks ([ys88, ys89]).flatten) != (cks ([ys1]).flatten))))], []⟩ (by kernel_rfl) ?_
          refine X.isFalse 54 rfl (by rw [← hys88, ← hys89, cks_swap (l := ys1) _ (by omega) (by omega) (by omega)]; simp) ?_
          refine X.run 8 [0, 6, 56, 58] [] (.ops (aA B8 [1, 1, 1, 1, 1, 1, 0]) (oA B8 [1, 1, 1, 1, 1, 1, 0] 3 :: lA B8 [1, 1, 1, 1, 1, 1, 0] 4)) [.seq (cA B8 [1, 1, 1, 1, 1, 1, 1])] ⟨79, [(0, .v (.slice A1 ys1.length (c - 0))), (6, .v (.bool false)), (56, .v (.slice A1 ys1.length (c - 0))), (58, .v (.int .i64 (IntKind.i64.wrap q)))], []⟩ (by kernel_rfl) ?_
          refine X.known 58 (y := .v (.int .i64 q)) rfl (congrArg (fun z_ => AV.v (.int .i64 z_)) (wi64 (by omega) (by omega))) ?_
          refine X.callG (f := 40) (l := [.v (.slice A1 ys1.length (c - 0)), .v (.int .i64 q)]) [.slice A1 ys1.length (c - 0), .int .i64 q] 559 (by kernel_rfl) (by kernel_rfl) (by kernel_rfl) (Fill_ok _ _ ys1 q _ hr1 hc1 (by omega) (by omega)) ?_
          rintro v102 G102 rows102 hG102 ⟨ea102, eb102⟩
          replace hb := hb.mono hG102.le
          replace hr1 := hr1.mono hG102.le
          replace hr3 := hr3.mono hG102.le
          replace hr4 := hr4.mono hG102.le
          replace hr88 := hr88.mono hG102.le
          replace hr89 := hr89.mono hG102.le
          by_cases hok102 : (0 ≤ q ∧ q % 2 = 0 ∧ q + 2 ≤ (ys1.length : Int))
          · -- filled: True
            obtain ⟨A102, c102, rfl, hc102, rfl⟩ := eb102 hok102
            clear ea102 eb102
            refine X.tellR [559] (R' := [(559, ⟨5, 1, .slice A102 ys1.length c102, ys1.length, (filled ys1 q).map (Value.int .u8)⟩)]) rfl ?_
            have hbf102 := row_bytes hr1
            refine X.run 18 [6, 9, 64, 70] [] (.ops (aA B8 [1, 1, 1, 1, 1, 1, 1, 0]) (oA B8 [1, 1, 1, 1, 1, 1, 1, 0] 9 :: lA B8 [1, 1, 1, 1, 1, 1, 1, 0] 10)) [.seq (cA B8 [1, 1, 1, 1, 1, 1, 1, 1])] ⟨79, [(6, .v (.bool false)), (9, .v (.slice A102 ys1.length c102)), (64, .v (.bool false)), (70, .v (.bool (((ys1.length : Nat) : Int) == ((ys1.length : Nat) : Int))))], []⟩ (by kernel_rfl) ?_
            refine X.isTrue 70 rfl (by simp) ?_
            refine X.run 1 [6, 64, 70, 71] [] (.ops (aA B8 [1, 1, 1, 1, 1, 1, 1, 0]) (oA B8 [1, 1, 1, 1, 1, 1, 1, 0] 10 :: lA B8 [1, 1, 1, 1, 1, 1, 1, 0] 11)) [.seq (cA B8 [1, 1, 1, 1, 1, 1, 1, 1])] ⟨79, [(6, .v (.bool false)), (64, .v (.bool false)), (70, .v (.bool true)), (71, .v (.slice A102 ys1.length c102))], []⟩ (by kernel_rfl) ?_
            refine X.lit 72 22 1 1 [.slice A102 ys1.length c102] (by kernel_rfl) (fun g => by kernel_rfl) ?_
            intro A103
            refine X.run 0 [6, 64, 70, 72] [] (.ops (aA B8 [1, 1, 1, 1, 1, 1, 1, 0]) (oA B8 [1, 1, 1, 1, 1, 1, 1, 0] 11 :: lA B8 [1, 1, 1, 1, 1, 1, 1, 0] 12)) [.seq (cA B8 [1, 1, 1, 1, 1, 1, 1, 1])] ⟨79, [(6, .v (.bool false)), (64, .v (.bool false)), (70, .v (.bool true)), (72, .v (.slice A103 1 1))], []⟩ (by kernel_rfl) ?_
            refine X.capLe (i := 559) (q := ⟨5, 1, .slice A102 ys1.length c102, ys1.length, (filled ys1 q).map (Value.int .u8)⟩) (n := ys1.length) (c := c102) (A := A102) rfl rfl fun hn104 hx104 => ?_
            have hl104 : (filled ys1 q).length = ys1.length := by simp [filled]
            have hb104 : isBytes (filled ys1 q) := by unfold filled; exact bytes_set (bytes_set (bytes_set (bytes_set hbf102 (by omega)) (by omega)) (by rw [u8_wrap]; omega)) (by rw [u8_wrap]; omega)
            refine X.callV (f := 30) (l := [.v (.slice A103 1 1)]) (Q := fun v_ => v_ = .bool (cks (filled ys1 q) == 0)) [.slice A103 1 1] (by kernel_rfl) (by kernel_rfl) (by kernel_rfl) (fun G1_ hl_ hr_ => (Verify_ok _ _ [filled ys1 q] G1_ (rowLit (hr_ 72 _ rfl) ⟨_, _, rfl, (show (D.slice (D.int .u8)).rep G1_ (filled ys1 q) [.slice A102 ys1.length c102] by rw [← hl104]; exact rep_slice (by omega) hx104 (rowLit (hr_ 559 _ rfl) (reps_ints hb104) (by decide))), rfl⟩ (by decide)) (by simp) (by rw [List.flatten_cons, List.flatten_nil, List.append_nil]; have := wsum_le hb104 300 (by omega); omega)).mono (fun _ _ _ _ h_ => by rw [h_.1, List.flatten_cons, List.flatten_nil, List.append_nil])) ?_
            rintro _ rfl
            refine X.run 3 [6, 76] [] (.ops (aA B8 [1, 1, 1, 1, 1, 1, 1, 0]) (oA B8 [1, 1, 1, 1, 1, 1, 1, 0] 15 :: lA B8 [1, 1, 1, 1, 1, 1, 1, 0] 16)) [.seq (cA B8 [1, 1, 1, 1, 1, 1, 1, 1])] ⟨79, [(6, .v (.bool false)), (76, .v (.bool (cks (filled ys1 q) == 0)))], []⟩ (by kernel_rfl) ?_
            refine X.isTrue 76 rfl (by rw [cks_filled hbf102 hok102.1 hok102.2.1 hok102.2.2]; rfl) ?_
            refine X.callG (f := 31) (l := []) [] 0 (by kernel_rfl) (by kernel_rfl) (by kernel_rfl) (works10_ok _) ?_
            rintro v105 G105 rows105 hG105 ⟨rfl, rfl⟩
            replace hb := hb.mono hG105.le
            replace hr1 := hr1.mono hG105.le
            replace hr3 := hr3.mono hG105.le
            replace hr4 := hr4.mono hG105.le
            replace hr88 := hr88.mono hG105.le
            replace hr89 := hr89.mono hG105.le
            refine X.run 5 [6] [] (.ex .ret) [] ⟨79, [(6, .v (.bool true))], []⟩ (by kernel_rfl) ?_
            refine doneG (.inl rfl) [.bool true] [] (by kernel_rfl) rfl rfl ((hG102.trans hG105)) ?_
            -- end 19 (TT)
            exact ⟨rfl, rfl⟩
          · -- filled: False
            obtain ⟨rfl, rfl⟩ := ea102 hok102
            clear ea102 eb102
            refine X.run 24 [6, 76] [] (.ops (aA B8 [1, 1, 1, 1, 1, 1, 1, 0]) (oA B8 [1, 1, 1, 1, 1, 1, 1, 0] 15 :: lA B8 [1, 1, 1, 1, 1, 1, 1, 0] 16)) [.seq (cA B8 [1, 1, 1, 1, 1, 1, 1, 1])] ⟨79, [(6, .v (.bool false)), (76, .v (.bool true))], []⟩ (by kernel_rfl) ?_
            refine X.callG (f := 31) (l := []) [] 0 (by kernel_rfl) (by kernel_rfl) (by kernel_rfl) (works10_ok _) ?_
            rintro v106 G106 rows106 hG106 ⟨rfl, rfl⟩
            replace hb := hb.mono hG106.le
            replace hr1 := hr1.mono hG106.le
            replace hr3 := hr3.mono hG106.le
            replace hr4 := hr4.mono hG106.le
            replace hr88 := hr88.mono hG106.le
            replace hr89 := hr89.mono hG106.le
            refine X.run 5 [6] [] (.ex .ret) [] ⟨79, [(6, .v (.bool true))], []⟩ (by kernel_rfl) ?_
            refine doneG (.inl rfl) [.bool true] [] (by kernel_rfl) rfl rfl ((hG102.trans hG106)) ?_
            -- end 20 (TF)
            exact ⟨rfl, rfl⟩
      · -- 14 first
        refine X.lit 51 22 1 1 [.slice A1 ys1.length (c - 0)] (by kernel_rfl) (fun g => by kernel_rfl) ?_
        intro A107
        refine X.back ⟨trivial, Le.refl _, rfl, ?_⟩
        refine XD.norm [0, 2, 6, 41, 44, 47, 51] [] ⟨79, [(0, .v (.slice A1 ys1.length (c - 0))), (2, .v (.int .u8 q)), (6, .v (.bool false)), (41, .v (.bool true)), (44, .v (.slice A88 ys88.length ((c - 0) - (((min k ((ys1.length : Nat) : Int)) - ((min k ((ys1.length : Nat) : Int)) % 2)).toNat)))), (47, .v (.slice A89 ys89.length ((c - 0) - 0))), (51, .v (.slice A107 1 1))], []⟩ (by kernel_rfl) trivial ?_
        refine XD.one (i := 11) (l' := (lb 18 28671)) (oA B8 [1, 1, 1, 1, 1, 0, 0] 11) (by kernel_rfl) (by kernel_rfl) (by kernel_rfl) ?_
        refine X.lit 48 22 1 2 [.slice A88 ys88.length ((c - 0) - (((min k ((ys1.length : Nat) : Int)) - ((min k ((ys1.length : Nat) : Int)) % 2)).toNat)), .slice A89 ys89.length ((c - 0) - 0)] (by kernel_rfl) (fun g => by kernel_rfl) ?_
        intro A108
        refine X.back ⟨trivial, Le.refl _, rfl, ?_⟩
        refine XD.norm [0, 2, 6, 41, 48, 51] [] ⟨79, [(0, .v (.slice A1 ys1.length (c - 0))), (2, .v (.int .u8 q)), (6, .v (.bool false)), (41, .v (.bool true)), (48, .v (.slice A108 2 2)), (51, .v (.slice A107 1 1))], []⟩ (by kernel_rfl) trivial ?_
        refine XD.one (i := 12) (l' := (lb 18 32767)) (oA B8 [1, 1, 1, 1, 1, 0, 0] 12) (by kernel_rfl) (by kernel_rfl) (by kernel_rfl) ?_
        have hB109 : ∀ p_ ∈ ([ys88, ys89] : List (List Int)), isBytes p_ := by intro p_ hp_; simp only [List.mem_cons, List.not_mem_nil, or_false] at hp_; rcases hp_ with rfl | rfl; all_goals first | exact (fun _ h_ => absurd h_ (List.not_mem_nil)) | exact row_bytes hr88 | exact row_bytes hr89
        have hL109 : ([ys88, ys89] : List (List Int)).flatten.length ≤ 600 := by simp only [List.flatten_cons, List.flatten_nil, List.length_append, List.length_nil]; omega
        refine X.callV (f := 28) (l := [.v (.slice A108 2 2)]) (Q := fun v_ => v_ = .int .u16 (cks ([ys88, ys89]).flatten)) [.slice A108 2 2] (by kernel_rfl) (by kernel_rfl) (by kernel_rfl) (fun G1_ hl_ hr_ => (Sum_ok _ _ [ys88, ys89] G1_ (rowLit (hr_ 48 _ rfl) (⟨_, _, rfl, rep_slice hc88 hm88 (hr88.mono hl_), ⟨_, _, rfl, rep_slice hc89 hm89 (hr89.mono hl_), rfl⟩⟩) (by decide)) (by simp) (by have := wsum_le (bytes_flat hB109) 600 hL109; omega)).mono (fun _ _ _ _ h_ => h_.1)) ?_
        rintro _ rfl
        refine X.back ⟨trivial, Le.refl _, rfl, ?_⟩
        refine XD.norm [0, 2, 6, 41, 49, 51] [] ⟨79, [(0, .v (.slice A1 ys1.length (c - 0))), (2, .v (.int .u8 q)), (6, .v (.bool false)), (41, .v (.bool true)), (49, .v (.int .u16 (cks ([ys88, ys89]).flatten))), (51, .v (.slice A107 1 1))], []⟩ (by kernel_rfl) trivial ?_
        refine XD.one (i := 15) (l' := (lb 18 65535)) (oA B8 [1, 1, 1, 1, 1, 0, 0] 15) (by kernel_rfl) (by kernel_rfl) (by kernel_rfl) ?_
        have hB110 : ∀ p_ ∈ ([ys1] : List (List Int)), isBytes p_ := by intro p_ hp_; simp only [List.mem_cons, List.not_mem_nil, or_false] at hp_; rcases hp_ with rfl; all_goals first | exact (fun _ h_ => absurd h_ (List.not_mem_nil)) | exact row_bytes hr1
        have hL110 : ([ys1] : List (List Int)).flatten.length ≤ 600 := by simp only [List.flatten_cons, List.flatten_nil, List.length_append, List.length_nil]; omega
        refine X.callV (f := 28) (l := [.v (.slice A107 1 1)]) (Q := fun v_ => v_ = .int .u16 (cks ([ys1]).flatten)) [.slice A107 1 1] (by kernel_rfl) (by kernel_rfl) (by kernel_rfl) (fun G1_ hl_ hr_ => (Sum_ok _ _ [ys1] G1_ (rowLit (hr_ 51 _ rfl) (⟨_, _, rfl, rep_slice hc1 hm1 (hr1.mono hl_), rfl⟩) (by decide)) (by simp) (by have := wsum_le (bytes_flat hB110) 600 hL110; omega)).mono (fun _ _ _ _ h_ => h_.1)) ?_
        rintro _ rfl
        refine X.back ⟨trivial, Le.refl _, rfl, ?_⟩
        refine XD.take (i := 16) (l' := (lb 18 131071)) (oA B8 [1, 1, 1, 1, 1, 0, 0] 16) (.v (.bool ((cks ([ys88, ys89]).flatten) != (cks ([ys1]).flatten)))) QOk.ctxG (by kernel_rfl) (by kernel_rfl) (by kernel_rfl) (by kernel_rfl) (by kernel_rfl) ?_
        refine XD.take (i := 17) (l' := (lb 18 262143)) (oA B8 [1, 1, 1, 1, 1, 0, 0] 17) (.v (.bool ((cks ([ys88, ys89]).flatten) != (cks ([ys1]).flatten)))) QOk.ctxG (by kernel_rfl) (by kernel_rfl) (by kernel_rfl) (by kernel_rfl) (by kernel_rfl) ?_
        refine XD.done (by kernel_rfl) ?_
        refine X.run 1 [0, 2, 6, 54] [] (.code (cA B8 [1, 1, 1, 1, 1, 0, 1])) [.seq (cA B8 [1, 1, 1, 1, 1, 1])] ⟨79, [(0, .v (.slice A1 ys1.length (c - 0))), (2, .v (.int .u8 q)), (6, .v (.bool false)), (54, .v (.bool ((cks ([ys88, ys89]).flatten) != (cks ([ys1]).flatten))))], []⟩ (by kernel_rfl) ?_
        refine X.isFalse 54 rfl (by rw [← hys88, ← hys89, cks_swap (l := ys1) _ (by omega) (by omega) (by omega)]; simp) ?_
        refine X.run 8 [0, 6, 56, 58] [] (.ops (aA B8 [1, 1, 1, 1, 1, 1, 0]) (oA B8 [1, 1, 1, 1, 1, 1, 0] 3 :: lA B8 [1, 1, 1, 1, 1, 1, 0] 4)) [.seq (cA B8 [1, 1, 1, 1, 1, 1, 1])] ⟨79, [(0, .v (.slice A1 ys1.length (c - 0))), (6, .v (.bool false)), (56, .v (.slice A1 ys1.length (c - 0))), (58, .v (.int .i64 (IntKind.i64.wrap q)))], []⟩ (by kernel_rfl) ?_
        refine X.known 58 (y := .v (.int .i64 q)) rfl (congrArg (fun z_ => AV.v (.int .i64 z_)) (wi64 (by omega) (by omega))) ?_
        refine X.callG (f := 40) (l := [.v (.slice A1 ys1.length (c - 0)), .v (.int .i64 q)]) [.slice A1 ys1.length (c - 0), .int .i64 q] 559 (by kernel_rfl) (by kernel_rfl) (by kernel_rfl) (Fill_ok _ _ ys1 q _ hr1 hc1 (by omega) (by omega)) ?_
        rintro v111 G111 rows111 hG111 ⟨ea111, eb111⟩
        replace hb := hb.mono hG111.le
        replace hr1 := hr1.mono hG111.le
        replace hr3 := hr3.mono hG111.le
        replace hr4 := hr4.mono hG111.le
        replace hr88 := hr88.mono hG111.le
        replace hr89 := hr89.mono hG111.le
        by_cases hok111 : (0 ≤ q ∧ q % 2 = 0 ∧ q + 2 ≤ (ys1.length : Int))
        · -- filled: True
          obtain ⟨A111, c111, rfl, hc111, rfl⟩ := eb111 hok111
          clear ea111 eb111
          refine X.tellR [559] (R' := [(559, ⟨5, 1, .slice A111 ys1.length c111, ys1.length, (filled ys1 q).map (Value.int .u8)⟩)]) rfl ?_
          have hbf111 := row_bytes hr1
          refine X.run 18 [6, 9, 64, 70] [] (.ops (aA B8 [1, 1, 1, 1, 1, 1, 1, 0]) (oA B8 [1, 1, 1, 1, 1, 1, 1, 0] 9 :: lA B8 [1, 1, 1, 1, 1, 1, 1, 0] 10)) [.seq (cA B8 [1, 1, 1, 1, 1, 1, 1, 1])] ⟨79, [(6, .v (.bool false)), (9, .v (.slice A111 ys1.length c111)), (64, .v (.bool false)), (70, .v (.bool (((ys1.length : Nat) : Int) == ((ys1.length : Nat) : Int))))], []⟩ (by kernel_rfl) ?_
          refine X.isTrue 70 rfl (by simp) ?_
          refine X.run 1 [6, 64, 70, 71] [] (.ops (aA B8 [1, 1, 1, 1, 1, 1, 1, 0]) (oA B8 [1, 1, 1, 1, 1, 1, 1, 0] 10 :: lA B8 [1, 1, 1, 1, 1, 1, 1, 0] 11)) [.seq (cA B8 [1, 1, 1, 1, 1, 1, 1, 1])] ⟨79, [(6, .v (.bool false)), (64, .v (.bool false)), (70, .v (.bool true)), (71, .v (.slice A111 ys1.length c111))], []⟩ (by kernel_rfl) ?_
          refine X.lit 72 22 1 1 [.slice A111 ys1.length c111] (by kernel_rfl) (fun g => by kernel_rfl) ?_
          intro A112
          refine X.run 0 [6, 64, 70, 72] [] (.ops (aA B8 [1, 1, 1, 1, 1, 1, 1, 0]) (oA B8 [1, 1, 1, 1, 1, 1, 1, 0] 11 :: lA B8 [1, 1, 1, 1, 1, 1, 1, 0] 12)) [.seq (cA B8 [1, 1, 1, 1, 1, 1, 1, 1])] ⟨79, [(6, .v (.bool false)), (64, .v (.bool false)), (70, .v (.bool true)), (72, .v (.slice A112 1 1))], []⟩ (by kernel_rfl) ?_
          refine X.capLe (i := 559) (q := ⟨5, 1, .slice A111 ys1.length c111, ys1.length, (filled ys1 q).map (Value.int .u8)⟩) (n := ys1.length) (c := c111) (A := A111) rfl rfl fun hn113 hx113 => ?_
          have hl113 : (filled ys1 q).length = ys1.length := by simp [filled]
          have hb113 : isBytes (filled ys1 q) := by unfold filled; exact bytes_set (bytes_set (bytes_set (bytes_set hbf111 (by omega)) (by omega)) (by rw [u8_wrap]; omega)) (by rw [u8_wrap]; omega)
          refine X.callV (f := 30) (l := [.v (.slice A112 1 1)]) (Q := fun v_ => v_ = .bool (cks (filled ys1 q) == 0)) [.slice A112 1 1] (by kernel_rfl) (by kernel_rfl) (by kernel_rfl) (fun G1_ hl_ hr_ => (Verify_ok _ _ [filled ys1 q] G1_ (rowLit (hr_ 72 _ rfl) ⟨_, _, rfl, (show (D.slice (D.int .u8)).rep G1_ (filled ys1 q) [.slice A111 ys1.length c111] by rw [← hl113]; exact rep_slice (by omega) hx113 (rowLit (hr_ 559 _ rfl) (reps_ints hb113) (by decide))), rfl⟩ (by decide)) (by simp) (by rw [List.flatten_cons, List.flatten_nil, List.append_nil]; have := wsum_le hb113 300 (by omega); omega)).mono (fun _ _ _ _ h_ => by rw [h_.1, List.flatten_cons, List.flatten_nil, List.append_nil])) ?_
          rintro _ rfl
          refine X.run 3 [6, 76] [] (.ops (aA B8 [1, 1, 1, 1, 1, 1, 1, 0]) (oA B8 [1, 1, 1, 1, 1, 1, 1, 0] 15 :: lA B8 [1, 1, 1, 1, 1, 1, 1, 0] 16)) [.seq (cA B8 [1, 1, 1, 1, 1, 1, 1, 1])] ⟨79, [(6, .v (.bool false)), (76, .v (.bool (cks (filled ys1 q) == 0)))], []⟩ (by kernel_rfl) ?_
          refine X.isTrue 76 rfl (by rw [cks_filled hbf111 hok111.1 hok111.2.1 hok111.2.2]; rfl) ?_
          refine X.callG (f := 31) (l := []) [] 0 (by kernel_rfl) (by kernel_rfl) (by kernel_rfl) (works10_ok _) ?_
          rintro v114 G114 rows114 hG114 ⟨rfl, rfl⟩
          replace hb := hb.mono hG114.le
          replace hr1 := hr1.mono hG114.le
          replace hr3 := hr3.mono hG114.le
          replace hr4 := hr4.mono hG114.le
          replace hr88 := hr88.mono hG114.le
          replace hr89 := hr89.mono hG114.le
          refine X.run 5 [6] [] (.ex .ret) [] ⟨79, [(6, .v (.bool true))], []⟩ (by kernel_rfl) ?_
          refine doneG (.inl rfl) [.bool true] [] (by kernel_rfl) rfl rfl ((hG111.trans hG114)) ?_
          -- end 21 (TT)
          exact ⟨rfl, rfl⟩
        · -- filled: False
          obtain ⟨rfl, rfl⟩ := ea111 hok111
          clear ea111 eb111
          refine X.run 24 [6, 76] [] (.ops (aA B8 [1, 1, 1, 1, 1, 1, 1, 0]) (oA B8 [1, 1, 1, 1, 1, 1, 1, 0] 15 :: lA B8 [1, 1, 1, 1, 1, 1, 1, 0] 16)) [.seq (cA B8 [1, 1, 1, 1, 1, 1, 1, 1])] ⟨79, [(6, .v (.bool false)), (76, .v (.bool true))], []⟩ (by kernel_rfl) ?_
          refine X.callG (f := 31) (l := []) [] 0 (by kernel_rfl) (by kernel_rfl) (by kernel_rfl) (works10_ok _) ?_
          rintro v115 G115 rows115 hG115 ⟨rfl, rfl⟩
          replace hb := hb.mono hG115.le
          replace hr1 := hr1.mono hG115.le
          replace hr3 := hr3.mono hG115.le
          replace hr4 := hr4.mono hG115.le
          replace hr88 := hr88.mono hG115.le
          replace hr89 := hr89.mono hG115.le
          refine X.run 5 [6] [] (.ex .ret) [] ⟨79, [(6, .v (.bool true))], []⟩ (by kernel_rfl) ?_
          refine doneG (.inl rfl) [.bool true] [] (by kernel_rfl) rfl rfl ((hG111.trans hG115)) ?_
          -- end 22 (TF)
          exact ⟨rfl, rfl⟩
    · -- slot 41: (Int.tmod ((ys1.length : Nat) : Int) 2) == 0 is False
      replace h87 : (Int.tmod ((ys1.length : Nat) : Int) 2) ≠ 0 := by simpa using h87
      have htm_ : Int.tmod ((ys1.length : Nat) : Int) 2 = ((ys1.length : Nat) : Int) % 2 := Int.tmod_eq_emod_of_nonneg (by omega)
      refine XD.off (i := 5) (l' := (lb 18 63)) (oA B8 [1, 1, 1, 1, 1, 0, 0] 5) QOk.ctxG (by kernel_rfl) (by kernel_rfl) (by kernel_rfl) (by kernel_rfl) ?_
      refine XD.off (i := 6) (l' := (lb 18 127)) (oA B8 [1, 1, 1, 1, 1, 0, 0] 6) QOk.ctxG (by kernel_rfl) (by kernel_rfl) (by kernel_rfl) (by kernel_rfl) ?_
      refine XD.off (i := 7) (l' := (lb 18 255)) (oA B8 [1, 1, 1, 1, 1, 0, 0] 7) QOk.ctxG (by kernel_rfl) (by kernel_rfl) (by kernel_rfl) (by kernel_rfl) ?_
      refine XD.off (i := 8) (l' := (lb 18 511)) (oA B8 [1, 1, 1, 1, 1, 0, 0] 8) QOk.ctxG (by kernel_rfl) (by kernel_rfl) (by kernel_rfl) (by kernel_rfl) ?_
      refine XD.off (i := 9) (l' := (lb 18 1023)) (oA B8 [1, 1, 1, 1, 1, 0, 0] 9) QOk.ctxG (by kernel_rfl) (by kernel_rfl) (by kernel_rfl) (by kernel_rfl) ?_
      refine XD.off (i := 10) (l' := (lb 18 2047)) (oA B8 [1, 1, 1, 1, 1, 0, 0] 10) QOk.ctxG (by kernel_rfl) (by kernel_rfl) (by kernel_rfl) (by kernel_rfl) ?_
      refine XD.off (i := 11) (l' := (lb 18 4095)) (oA B8 [1, 1, 1, 1, 1, 0, 0] 11) QOk.ctxG (by kernel_rfl) (by kernel_rfl) (by kernel_rfl) (by kernel_rfl) ?_
      refine XD.off (i := 12) (l' := (lb 18 8191)) (oA B8 [1, 1, 1, 1, 1, 0, 0] 12) QOk.ctxG (by kernel_rfl) (by kernel_rfl) (by kernel_rfl) (by kernel_rfl) ?_
      refine XD.off (i := 13) (l' := (lb 18 16383)) (oA B8 [1, 1, 1, 1, 1, 0, 0] 13) QOk.ctxG (by kernel_rfl) (by kernel_rfl) (by kernel_rfl) (by kernel_rfl) ?_
      refine XD.off (i := 14) (l' := (lb 18 32767)) (oA B8 [1, 1, 1, 1, 1, 0, 0] 14) QOk.ctxG (by kernel_rfl) (by kernel_rfl) (by kernel_rfl) (by kernel_rfl) ?_
      refine XD.off (i := 15) (l' := (lb 18 65535)) (oA B8 [1, 1, 1, 1, 1, 0, 0] 15) QOk.ctxG (by kernel_rfl) (by kernel_rfl) (by kernel_rfl) (by kernel_rfl) ?_
      refine XD.off (i := 16) (l' := (lb 18 131071)) (oA B8 [1, 1, 1, 1, 1, 0, 0] 16) QOk.ctxG (by kernel_rfl) (by kernel_rfl) (by kernel_rfl) (by kernel_rfl) ?_
      refine XD.take (i := 17) (l' := (lb 18 262143)) (oA B8 [1, 1, 1, 1, 1, 0, 0] 17) (.v (.bool false)) QOk.ctxG (by kernel_rfl) (by kernel_rfl) (by kernel_rfl) (by kernel_rfl) (by kernel_rfl) ?_
      refine XD.done (by kernel_rfl) ?_
      refine X.run 9 [0, 6, 56, 58] [] (.ops (aA B8 [1, 1, 1, 1, 1, 1, 0]) (oA B8 [1, 1, 1, 1, 1, 1, 0] 3 :: lA B8 [1, 1, 1, 1, 1, 1, 0] 4)) [.seq (cA B8 [1, 1, 1, 1, 1, 1, 1])] ⟨79, [(0, .v (.slice A1 ys1.length (c - 0))), (6, .v (.bool false)), (56, .v (.slice A1 ys1.length (c - 0))), (58, .v (.int .i64 (IntKind.i64.wrap q)))], []⟩ (by kernel_rfl) ?_
      refine X.known 58 (y := .v (.int .i64 q)) rfl (congrArg (fun z_ => AV.v (.int .i64 z_)) (wi64 (by omega) (by omega))) ?_
      refine X.callG (f := 40) (l := [.v (.slice A1 ys1.length (c - 0)), .v (.int .i64 q)]) [.slice A1 ys1.length (c - 0), .int .i64 q] 559 (by kernel_rfl) (by kernel_rfl) (by kernel_rfl) (Fill_ok _ _ ys1 q _ hr1 hc1 (by omega) (by omega)) ?_
      rintro v116 G116 rows116 hG116 ⟨ea116, eb116⟩
      replace hb := hb.mono hG116.le
      replace hr1 := hr1.mono hG116.le
      replace hr3 := hr3.mono hG116.le
      replace hr4 := hr4.mono hG116.le
      by_cases hok116 : (0 ≤ q ∧ q % 2 = 0 ∧ q + 2 ≤ (ys1.length : Int))
      · -- filled: True
        obtain ⟨A116, c116, rfl, hc116, rfl⟩ := eb116 hok116
        clear ea116 eb116
        refine X.tellR [559] (R' := [(559, ⟨5, 1, .slice A116 ys1.length c116, ys1.length, (filled ys1 q).map (Value.int .u8)⟩)]) rfl ?_
        have hbf116 := row_bytes hr1
        refine X.run 18 [6, 9, 64, 70] [] (.ops (aA B8 [1, 1, 1, 1, 1, 1, 1, 0]) (oA B8 [1, 1, 1, 1, 1, 1, 1, 0] 9 :: lA B8 [1, 1, 1, 1, 1, 1, 1, 0] 10)) [.seq (cA B8 [1, 1, 1, 1, 1, 1, 1, 1])] ⟨79, [(6, .v (.bool false)), (9, .v (.slice A116 ys1.length c116)), (64, .v (.bool false)), (70, .v (.bool (((ys1.length : Nat) : Int) == ((ys1.length : Nat) : Int))))], []⟩ (by kernel_rfl) ?_
        refine X.isTrue 70 rfl (by simp) ?_
        refine X.run 1 [6, 64, 70, 71] [] (.ops (aA B8 [1, 1, 1, 1, 1, 1, 1, 0]) (oA B8 [1, 1, 1, 1, 1, 1, 1, 0] 10 :: lA B8 [1, 1, 1, 1, 1, 1, 1, 0] 11)) [.seq (cA B8 [1, 1, 1, 1, 1, 1, 1, 1])] ⟨79, [(6, .v (.bool false)), (64, .v (.bool false)), (70, .v (.bool true)), (71, .v (.slice A116 ys1.length c116))], []⟩ (by kernel_rfl) ?_
        refine X.lit 72 22 1 1 [.slice A116 ys1.length c116] (by kernel_rfl) (fun g => by kernel_rfl) ?_
        intro A117
        refine X.run 0 [6, 64, 70, 72] [] (.ops (aA B8 [1, 1, 1, 1, 1, 1, 1, 0]) (oA B8 [1, 1, 1, 1, 1, 1, 1, 0] 11 :: lA B8 [1, 1, 1, 1, 1, 1, 1, 0] 12)) [.seq (cA B8 [1, 1, 1, 1, 1, 1, 1, 1])] ⟨79, [(6, .v (.bool false)), (64, .v (.bool false)), (70, .v (.bool true)), (72, .v (.slice A117 1 1))], []⟩ (by kernel_rfl) ?_
        refine X.capLe (i := 559) (q := ⟨5, 1, .slice A116 ys1.length c116, ys1.length, (filled ys1 q).map (Value.int .u8)⟩) (n := ys1.length) (c := c116) (A := A116) rfl rfl fun hn118 hx118 => ?_
        have hl118 : (filled ys1 q).length = ys1.length := by simp [filled]
        have hb118 : isBytes (filled ys1 q) := by unfold filled; exact bytes_set (bytes_set (bytes_set (bytes_set hbf116 (by omega)) (by omega)) (by rw [u8_wrap]; omega)) (by rw [u8_wrap]; omega)
        refine X.callV (f := 30) (l := [.v (.slice A117 1 1)]) (Q := fun v_ => v_ = .bool (cks (filled ys1 q) == 0)) [.slice A117 1 1] (by kernel_rfl) (by kernel_rfl) (by kernel_rfl) (fun G1_ hl_ hr_ => (Verify_ok _ _ [filled ys1 q] G1_ (rowLit (hr_ 72 _ rfl) ⟨_, _, rfl, (show (D.slice (D.int .u8)).rep G1_ (filled ys1 q) [.slice A116 ys1.length c116] by rw [← hl118]; exact rep_slice (by omega) hx118 (rowLit (hr_ 559 _ rfl) (reps_ints hb118) (by decide))), rfl⟩ (by decide)) (by simp) (by rw [List.flatten_cons, List.flatten_nil, List.append_nil]; have := wsum_le hb118 300 (by omega); omega)).mono (fun _ _ _ _ h_ => by rw [h_.1, List.flatten_cons, List.flatten_nil, List.append_nil])) ?_
        rintro _ rfl
        refine X.run 3 [6, 76] [] (.ops (aA B8 [1, 1, 1, 1, 1, 1, 1, 0]) (oA B8 [1, 1, 1, 1, 1, 1, 1, 0] 15 :: lA B8 [1, 1, 1, 1, 1, 1, 1, 0] 16)) [.seq (cA B8 [1, 1, 1, 1, 1, 1, 1, 1])] ⟨79, [(6, .v (.bool false)), (76, .v (.bool (cks (filled ys1 q) == 0)))], []⟩ (by kernel_rfl) ?_
        refine X.isTrue 76 rfl (by rw [cks_filled hbf116 hok116.1 hok116.2.1 hok116.2.2]; rfl) ?_
        refine X.callG (f := 31) (l := []) [] 0 (by kernel_rfl) (by kernel_rfl) (by kernel_rfl) (works10_ok _) ?_
        rintro v119 G119 rows119 hG119 ⟨rfl, rfl⟩
        replace hb := hb.mono hG119.le
        replace hr1 := hr1.mono hG119.le
        replace hr3 := hr3.mono hG119.le
        replace hr4 := hr4.mono hG119.le
        refine X.run 5 [6] [] (.ex .ret) [] ⟨79, [(6, .v (.bool true))], []⟩ (by kernel_rfl) ?_
        refine doneG (.inl rfl) [.bool true] [] (by kernel_rfl) rfl rfl ((hG116.trans hG119)) ?_
        -- end 23 (FT)
        exact ⟨rfl, rfl⟩
      · -- filled: False
        obtain ⟨rfl, rfl⟩ := ea116 hok116
        clear ea116 eb116
        refine X.run 24 [6, 76] [] (.ops (aA B8 [1, 1, 1, 1, 1, 1, 1, 0]) (oA B8 [1, 1, 1, 1, 1, 1, 1, 0] 15 :: lA B8 [1, 1, 1, 1, 1, 1, 1, 0] 16)) [.seq (cA B8 [1, 1, 1, 1, 1, 1, 1, 1])] ⟨79, [(6, .v (.bool false)), (76, .v (.bool true))], []⟩ (by kernel_rfl) ?_
        refine X.callG (f := 31) (l := []) [] 0 (by kernel_rfl) (by kernel_rfl) (by kernel_rfl) (works10_ok _) ?_
        rintro v120 G120 rows120 hG120 ⟨rfl, rfl⟩
        replace hb := hb.mono hG120.le
        replace hr1 := hr1.mono hG120.le
        replace hr3 := hr3.mono hG120.le
        replace hr4 := hr4.mono hG120.le
        refine X.run 5 [6] [] (.ex .ret) [] ⟨79, [(6, .v (.bool true))], []⟩ (by kernel_rfl) ?_
        refine doneG (.inl rfl) [.bool true] [] (by kernel_rfl) rfl rfl ((hG116.trans hG120)) ?_
        -- end 24 (FF)
        exact ⟨rfl, rfl⟩
end Go.Proofs.YtjgpdbkkpomhjaaX
