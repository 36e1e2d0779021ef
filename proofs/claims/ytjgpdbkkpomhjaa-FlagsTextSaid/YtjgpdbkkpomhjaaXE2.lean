/- flags: the works, the bits -/
import Derived.Test.YtjgpdbkkpomhjaaProg
import Derived.KernelRfl
import Derived.Test.YtjgpdbkkpomhjaaXE1
namespace Go.Proofs.YtjgpdbkkpomhjaaX
open Go.RowKit
set_option linter.unusedVariables false
set_option linter.unusedSimpArgs false
set_option maxRecDepth 100000
/-- leat/leatlaw11.works -/
noncomputable def B34 : Code := bodyOf Try.f34
set_option maxHeartbeats 1000000 in
theorem works11_ok (G : Mem) : CallsG Try.prog 34 [] G (fun _ v rows => v = .bool true ∧ rows = []) := by
  refine CallsG.enter Try.func34 rfl rfl ?_
  intro w
  refine X.run 8 [0, 4] [] (.ops (aA B34 [1, 0]) (oA B34 [1, 0] 1 :: lA B34 [1, 0] 2)) [.seq (cA B34 [1, 1])] ⟨27, [(0, .v (.bool false)), (4, .v (.agg #[.int .u16 0, .int .u16 0, .int .u32 0, .int .u32 0, .int .u8 5, .int .u8 5, .int .u8 2, .int .u16 0, .int .u16 0, .int .u16 0]))], []⟩ (by kernel_rfl) ?_
  refine X.callG (f := 32) (l := [.v (.agg #[.int .u16 0, .int .u16 0, .int .u32 0, .int .u32 0, .int .u8 5, .int .u8 5, .int .u8 2, .int .u16 0, .int .u16 0, .int .u16 0])]) [.agg #[.int .u16 0, .int .u16 0, .int .u32 0, .int .u32 0, .int .u8 5, .int .u8 5, .int .u8 2, .int .u16 0, .int .u16 0, .int .u16 0]] 205 (by kernel_rfl) (by kernel_rfl) (by kernel_rfl) (Enc11_ok 0 0 0 0 5 5 2 0 0 0 _) ?_
  rintro v1 G1 rows1 hG1 ⟨he1, hx1⟩
  obtain ⟨A1, c1, rfl, hc1, rfl⟩ := he1 (by decide)
  refine X.asR (R' := [(205, ⟨5, 1, .slice A1 20 c1, 20, [.int .u8 0, .int .u8 0, .int .u8 0, .int .u8 0, .int .u8 0, .int .u8 0, .int .u8 0, .int .u8 0, .int .u8 0, .int .u8 0, .int .u8 0, .int .u8 0, .int .u8 81, .int .u8 66, .int .u8 0, .int .u8 0, .int .u8 0, .int .u8 0, .int .u8 0, .int .u8 0]⟩)]) (by kernel_rfl) ?_
  refine X.run 18 [0, 1, 15, 16] [] (.ops (aA B34 [1, 1, 0]) (oA B34 [1, 1, 0] 9 :: lA B34 [1, 1, 0] 10)) [.seq (cA B34 [1, 1, 1])] ⟨27, [(0, .v (.bool false)), (1, .v (.slice A1 20 c1)), (15, .v (.bool true)), (16, .v (.slice A1 20 c1))], []⟩ (by kernel_rfl) ?_
  have b2 : (0 : Int) ≤ 12 := by omega
  have b3 : 12 < ((20 : Nat) : Int) := by omega
  refine X.index (t := 22) (e := 5) (sz := 1) (A := A1) (n := 20) (c := c1) (ki := .i64) (i := 12) (x := .tmp 16) (ix := .const (.int .i64 12)) (by kernel_rfl) (by kernel_rfl) (by kernel_rfl) (by kernel_rfl) (by kernel_rfl) (by kernel_rfl) b2 b3 (rowSome (i := 205) (q := ⟨5, 1, .slice A1 20 c1, 20, [.int .u8 0, .int .u8 0, .int .u8 0, .int .u8 0, .int .u8 0, .int .u8 0, .int .u8 0, .int .u8 0, .int .u8 0, .int .u8 0, .int .u8 0, .int .u8 0, .int .u8 81, .int .u8 66, .int .u8 0, .int .u8 0, .int .u8 0, .int .u8 0, .int .u8 0, .int .u8 0]⟩) rfl rfl (Nat.succ_pos _)) ?_
  have at4 : At G1 [(205, ⟨5, 1, .slice A1 20 c1, 20, [.int .u8 0, .int .u8 0, .int .u8 0, .int .u8 0, .int .u8 0, .int .u8 0, .int .u8 0, .int .u8 0, .int .u8 0, .int .u8 0, .int .u8 0, .int .u8 0, .int .u8 81, .int .u8 66, .int .u8 0, .int .u8 0, .int .u8 0, .int .u8 0, .int .u8 0, .int .u8 0]⟩)] A1 (12 * 1) [.int .u8 81] := (At.of_row (i := 205) (r := ⟨5, 1, .slice A1 20 c1, 20, [.int .u8 0, .int .u8 0, .int .u8 0, .int .u8 0, .int .u8 0, .int .u8 0, .int .u8 0, .int .u8 0, .int .u8 0, .int .u8 0, .int .u8 0, .int .u8 0, .int .u8 81, .int .u8 66, .int .u8 0, .int .u8 0, .int .u8 0, .int .u8 0, .int .u8 0, .int .u8 0]⟩) rfl rfl).part 12 1
  refine X.run 0 [0, 1, 15, 17] [] (.ops (aA B34 [1, 1, 0]) (oA B34 [1, 1, 0] 10 :: lA B34 [1, 1, 0] 11)) [.seq (cA B34 [1, 1, 1])] ⟨27, [(0, .v (.bool false)), (1, .v (.slice A1 20 c1)), (15, .v (.bool true)), (17, .v (elt A1 (12 * 1)))], []⟩ (by kernel_rfl) ?_
  refine X.load (t := 5) (A := A1) (j := 12 * 1) (x := .tmp 17) (z := .int .u8 81) [.int .u8 81] (by kernel_rfl) (by kernel_rfl) at4 (by kernel_rfl) (by kernel_rfl) ?_
  refine X.run 4 [0, 21, 22] [] (.ops (aA B34 [1, 1, 0]) (oA B34 [1, 1, 0] 15 :: lA B34 [1, 1, 0] 16)) [.seq (cA B34 [1, 1, 1])] ⟨27, [(0, .v (.bool false)), (21, .v (.bool true)), (22, .v (.slice A1 20 c1))], []⟩ (by kernel_rfl) ?_
  have b5 : (0 : Int) ≤ 13 := by omega
  have b6 : 13 < ((20 : Nat) : Int) := by omega
  refine X.index (t := 22) (e := 5) (sz := 1) (A := A1) (n := 20) (c := c1) (ki := .i64) (i := 13) (x := .tmp 22) (ix := .const (.int .i64 13)) (by kernel_rfl) (by kernel_rfl) (by kernel_rfl) (by kernel_rfl) (by kernel_rfl) (by kernel_rfl) b5 b6 (rowSome (i := 205) (q := ⟨5, 1, .slice A1 20 c1, 20, [.int .u8 0, .int .u8 0, .int .u8 0, .int .u8 0, .int .u8 0, .int .u8 0, .int .u8 0, .int .u8 0, .int .u8 0, .int .u8 0, .int .u8 0, .int .u8 0, .int .u8 81, .int .u8 66, .int .u8 0, .int .u8 0, .int .u8 0, .int .u8 0, .int .u8 0, .int .u8 0]⟩) rfl rfl (Nat.succ_pos _)) ?_
  have at7 : At G1 [(205, ⟨5, 1, .slice A1 20 c1, 20, [.int .u8 0, .int .u8 0, .int .u8 0, .int .u8 0, .int .u8 0, .int .u8 0, .int .u8 0, .int .u8 0, .int .u8 0, .int .u8 0, .int .u8 0, .int .u8 0, .int .u8 81, .int .u8 66, .int .u8 0, .int .u8 0, .int .u8 0, .int .u8 0, .int .u8 0, .int .u8 0]⟩)] A1 (13 * 1) [.int .u8 66] := (At.of_row (i := 205) (r := ⟨5, 1, .slice A1 20 c1, 20, [.int .u8 0, .int .u8 0, .int .u8 0, .int .u8 0, .int .u8 0, .int .u8 0, .int .u8 0, .int .u8 0, .int .u8 0, .int .u8 0, .int .u8 0, .int .u8 0, .int .u8 81, .int .u8 66, .int .u8 0, .int .u8 0, .int .u8 0, .int .u8 0, .int .u8 0, .int .u8 0]⟩) rfl rfl).part 13 1
  refine X.run 0 [0, 21, 23] [] (.ops (aA B34 [1, 1, 0]) (oA B34 [1, 1, 0] 16 :: lA B34 [1, 1, 0] 17)) [.seq (cA B34 [1, 1, 1])] ⟨27, [(0, .v (.bool false)), (21, .v (.bool true)), (23, .v (elt A1 (13 * 1)))], []⟩ (by kernel_rfl) ?_
  refine X.load (t := 5) (A := A1) (j := 13 * 1) (x := .tmp 23) (z := .int .u8 66) [.int .u8 66] (by kernel_rfl) (by kernel_rfl) at7 (by kernel_rfl) (by kernel_rfl) ?_
  refine X.run 6 [0] [] (.ex .ret) [] ⟨27, [(0, .v (.bool true))], []⟩ (by kernel_rfl) ?_
  refine doneG (.inl rfl) [.bool true] [] (by kernel_rfl) rfl rfl (hG1) ?_
  -- end 1 ()
  exact ⟨rfl, rfl⟩

theorem bits3 (f : Int) (h0 : 0 ≤ f) (h1 : f ≤ 255) : Int.tmod f 8 = (if band .u8 f 4 != 0 then 4 else 0) + (if band .u8 f 2 != 0 then 2 else 0) + (if band .u8 f 1 != 0 then 1 else 0) := by
  have key : ∀ n : Nat, n < 256 → Int.tmod (n : Int) 8 = (if band .u8 (n : Int) 4 != 0 then 4 else 0) + (if band .u8 (n : Int) 2 != 0 then 2 else 0) + (if band .u8 (n : Int) 1 != 0 then 1 else 0) := by decide +kernel
  have := key f.toNat (by omega)
  rwa [show ((f.toNat : Nat) : Int) = f by omega] at this
theorem hasBits (s g : Int) (h0 : 0 ≤ s) (h1 : s ≤ 255) (h2 : 0 ≤ g) (h3 : g ≤ 255) : ((band .u8 s g == g) == (band .u8 (IntKind.u8.wrap (255 - s)) g == 0)) = true := by
  rw [wu8 (x := 255 - s) (by omega) (by omega)]
  obtain ⟨a, rfl⟩ := Int.eq_ofNat_of_zero_le h0
  obtain ⟨b, rfl⟩ := Int.eq_ofNat_of_zero_le h2
  have ha : a < 256 := by omega
  have hb : b < 256 := by omega
  have e1 : band .u8 (a : Int) (b : Int) = ((a &&& b : Nat) : Int) := band_nat rfl (by show _ < 2 ^ 8; omega) (by show _ < 2 ^ 8; omega)
  have e2 : band .u8 (255 - (a : Int)) (b : Int) = (((255 - a) &&& b : Nat) : Int) := by
    rw [show (255 - (a : Int)) = ((255 - a : Nat) : Int) by omega]
    exact band_nat rfl (by show _ < 2 ^ 8; omega) (by show _ < 2 ^ 8; omega)
  rw [e1, e2]
  have key : (a &&& b = b) ↔ ((255 - a) &&& b = 0) := by
    have ht : ∀ i, (255 - a).testBit i = (decide (i < 8) && !a.testBit i) := fun i => by
      rw [show 255 - a = 2 ^ 8 - (a + 1) by omega]
      exact Nat.testBit_two_pow_sub_succ ha i
    have hbt : ∀ i, 8 ≤ i → b.testBit i = false := fun i hi => Nat.testBit_lt_two_pow (Nat.lt_of_lt_of_le hb (show 2 ^ 8 ≤ 2 ^ i from Nat.pow_le_pow_right (by decide) hi))
    constructor
    · intro h
      apply Nat.eq_of_testBit_eq
      intro i
      have := congrArg (·.testBit i) h
      simp only [Nat.testBit_and] at this
      rw [Nat.testBit_and, ht, Nat.zero_testBit]
      revert this
      cases a.testBit i <;> cases b.testBit i <;> simp
    · intro h
      apply Nat.eq_of_testBit_eq
      intro i
      have := congrArg (·.testBit i) h
      simp only [Nat.testBit_and, ht, Nat.zero_testBit] at this
      rw [Nat.testBit_and]
      by_cases hi : i < 8
      · revert this
        cases a.testBit i <;> cases b.testBit i <;> simp [hi]
      · rw [hbt i (by omega)]
        simp
  simp only [beq_iff_eq]
  by_cases h : a &&& b = b
  · have h' := key.mp h
    simp [h, h']
  · have h' : ¬ (255 - a) &&& b = 0 := fun e => h (key.mpr e)
    have n1 : ((a &&& b : Nat) : Int) ≠ (b : Int) := by omega
    have n2 : (((255 - a) &&& b : Nat) : Int) ≠ 0 := by omega
    rw [beq_eq_false_iff_ne.mpr n1, beq_eq_false_iff_ne.mpr n2]

/-- leat/leatlaw11.FlagsBits -/
noncomputable def B5 : Code := bodyOf Try.f5
set_option maxHeartbeats 4000000 in
theorem FlagsBits_ok (f : Int) (s0 s1 s2 s3 s4 s5 s6 s7 s8 s9 : Int) (g : Int) (hf : 0 ≤ f ∧ f ≤ 255) (h6 : 0 ≤ s6 ∧ s6 ≤ 255) (hg : 0 ≤ g ∧ g ≤ 255) (G : Mem) : CallsG Try.prog 5 [.int .u8 f, .agg #[.int .u16 s0, .int .u16 s1, .int .u32 s2, .int .u32 s3, .int .u8 s4, .int .u8 s5, .int .u8 s6, .int .u16 s7, .int .u16 s8, .int .u16 s9], .int .u8 g] G (fun _ v rows => v = .bool true ∧ rows = []) := by
  refine CallsG.enter Try.func5 rfl rfl ?_
  intro w
  refine X.run 9 [0, 2, 4, 6, 12] [4] (.ops (aA B5 [1, 0]) (oA B5 [1, 0] 1 :: lA B5 [1, 0] 2)) [.seq (cA B5 [1, 1])] ⟨53, [(0, .v (.int .u8 f)), (2, .v (.int .u8 g)), (4, .own 4 0), (6, .v (.bool false)), (12, .v (.int .u8 f))], [(4, ⟨31, [.v (.int .u16 s0), .v (.int .u16 s1), .v (.int .u32 s2), .v (.int .u32 s3), .v (.int .u8 s4), .v (.int .u8 s5), .v (.int .u8 s6), .v (.int .u16 s7), .v (.int .u16 s8), .v (.int .u16 s9)]⟩)]⟩ (by kernel_rfl) ?_
  refine X.callG (f := 35) (l := [.v (.int .u8 f)]) [.int .u8 f] 0 (by kernel_rfl) (by kernel_rfl) (by kernel_rfl) (Bits_ok f _) ?_
  rintro v1 G1 rows1 hG1 ⟨rfl, rfl⟩
  refine X.run 20 [0, 2, 4, 6, 7, 8, 9, 10, 17] [4] (.code (cA B5 [1, 1, 1, 0, 1])) [.seq (cA B5 [1, 1, 1, 1])] ⟨53, [(0, .v (.int .u8 f)), (2, .v (.int .u8 g)), (4, .own 4 0), (6, .v (.bool false)), (7, .v (.bool (band .u8 f 4 != 0))), (8, .v (.bool (band .u8 f 2 != 0))), (9, .v (.bool (band .u8 f 1 != 0))), (10, .v (.int .u8 0)), (17, .v (.bool (band .u8 f 4 != 0)))], [(4, ⟨31, [.v (.int .u16 s0), .v (.int .u16 s1), .v (.int .u32 s2), .v (.int .u32 s3), .v (.int .u8 s4), .v (.int .u8 s5), .v (.int .u8 s6), .v (.int .u16 s7), .v (.int .u16 s8), .v (.int .u16 s9)]⟩)]⟩ (by kernel_rfl) ?_
  refine X.split 17 rfl (fun h2 => ?_) (fun h2 => ?_)
  · -- slot 17: band .u8 f 4 != 0 is True
    replace h2 : band .u8 f 4 ≠ 0 := by simpa using h2
    refine X.run 13 [0, 2, 4, 6, 7, 8, 9, 10, 20] [4] (.code (cA B5 [1, 1, 1, 1, 0, 1])) [.seq (cA B5 [1, 1, 1, 1, 1])] ⟨53, [(0, .v (.int .u8 f)), (2, .v (.int .u8 g)), (4, .own 4 0), (6, .v (.bool false)), (7, .v (.bool (band .u8 f 4 != 0))), (8, .v (.bool (band .u8 f 2 != 0))), (9, .v (.bool (band .u8 f 1 != 0))), (10, .v (.int .u8 4)), (20, .v (.bool (band .u8 f 2 != 0)))], [(4, ⟨31, [.v (.int .u16 s0), .v (.int .u16 s1), .v (.int .u32 s2), .v (.int .u32 s3), .v (.int .u8 s4), .v (.int .u8 s5), .v (.int .u8 s6), .v (.int .u16 s7), .v (.int .u16 s8), .v (.int .u16 s9)]⟩)]⟩ (by kernel_rfl) ?_
    refine X.split 20 rfl (fun h3 => ?_) (fun h3 => ?_)
    · -- slot 20: band .u8 f 2 != 0 is True
      replace h3 : band .u8 f 2 ≠ 0 := by simpa using h3
      refine X.run 13 [0, 2, 4, 6, 7, 8, 9, 10, 23] [4] (.code (cA B5 [1, 1, 1, 1, 1, 0, 1])) [.seq (cA B5 [1, 1, 1, 1, 1, 1])] ⟨53, [(0, .v (.int .u8 f)), (2, .v (.int .u8 g)), (4, .own 4 0), (6, .v (.bool false)), (7, .v (.bool (band .u8 f 4 != 0))), (8, .v (.bool (band .u8 f 2 != 0))), (9, .v (.bool (band .u8 f 1 != 0))), (10, .v (.int .u8 6)), (23, .v (.bool (band .u8 f 1 != 0)))], [(4, ⟨31, [.v (.int .u16 s0), .v (.int .u16 s1), .v (.int .u32 s2), .v (.int .u32 s3), .v (.int .u8 s4), .v (.int .u8 s5), .v (.int .u8 s6), .v (.int .u16 s7), .v (.int .u16 s8), .v (.int .u16 s9)]⟩)]⟩ (by kernel_rfl) ?_
      refine X.split 23 rfl (fun h4 => ?_) (fun h4 => ?_)
      · -- slot 23: band .u8 f 1 != 0 is True
        replace h4 : band .u8 f 1 ≠ 0 := by simpa using h4
        refine X.run 8 [0, 2, 4, 6, 7, 8, 9, 10] [4] (.code (cA B5 [1, 1, 1, 1, 1, 1, 0])) [.seq (cA B5 [1, 1, 1, 1, 1, 1, 1])] ⟨53, [(0, .v (.int .u8 f)), (2, .v (.int .u8 g)), (4, .own 4 0), (6, .v (.bool false)), (7, .v (.bool (band .u8 f 4 != 0))), (8, .v (.bool (band .u8 f 2 != 0))), (9, .v (.bool (band .u8 f 1 != 0))), (10, .v (.int .u8 7))], [(4, ⟨31, [.v (.int .u16 s0), .v (.int .u16 s1), .v (.int .u32 s2), .v (.int .u32 s3), .v (.int .u8 s4), .v (.int .u8 s5), .v (.int .u8 s6), .v (.int .u16 s7), .v (.int .u16 s8), .v (.int .u16 s9)]⟩)]⟩ (by kernel_rfl) ?_
        refine XD.open (id := 9) (arr := aA B5 [1, 1, 1, 1, 1, 1, 0]) 28 [⟨some 4, 4, 31, [.v (.int .u16 s0), .v (.int .u16 s1), .v (.int .u32 s2), .v (.int .u32 s3), .v (.int .u8 s4), .v (.int .u8 s5), .v (.int .u8 s6), .v (.int .u16 s7), .v (.int .u16 s8), .v (.int .u16 s9)]⟩] [] [] (by kernel_rfl) (by kernel_rfl) (by kernel_rfl) (by kernel_rfl) (by kernel_rfl) ⟨⟨fun _ h => (by cases h; rfl), rfl⟩, trivial⟩ (by intro p hp hn; simp only [List.mem_cons, List.not_mem_nil, or_false] at hp; rcases hp with rfl <;> first | (cases hn; done) | exact absurd _ (Nat.le_of_ble_eq_true rfl)) rfl (fun ρ0 => ?_)
        refine XD.take (i := 0) (l' := (lb 28 1)) (oA B5 [1, 1, 1, 1, 1, 1, 0] 0) (.v (.int .u8 7)) QOk.ctxG (by kernel_rfl) (by kernel_rfl) (by kernel_rfl) (by kernel_rfl) (by kernel_rfl) ?_
        refine XD.take (i := 1) (l' := (lb 28 3)) (oA B5 [1, 1, 1, 1, 1, 1, 0] 1) (.v (.int .u8 f)) QOk.ctxG (by kernel_rfl) (by kernel_rfl) (by kernel_rfl) (by kernel_rfl) (by kernel_rfl) ?_
        refine XD.take (i := 2) (l' := (lb 28 7)) (oA B5 [1, 1, 1, 1, 1, 1, 0] 2) (.v (.int .u8 (Int.tmod f 8))) QOk.ctxG (by kernel_rfl) (by kernel_rfl) (by kernel_rfl) (by kernel_rfl) (by kernel_rfl) ?_
        refine XD.take (i := 3) (l' := (lb 28 15)) (oA B5 [1, 1, 1, 1, 1, 1, 0] 3) (.v (.bool (7 == (Int.tmod f 8)))) QOk.ctxG (by kernel_rfl) (by kernel_rfl) (by kernel_rfl) (by kernel_rfl) (by kernel_rfl) ?_
        refine XD.take (i := 4) (l' := (lb 28 31)) (oA B5 [1, 1, 1, 1, 1, 1, 0] 4) (.v (.bool (7 == (Int.tmod f 8)))) QOk.ctxG (by kernel_rfl) (by kernel_rfl) (by kernel_rfl) (by kernel_rfl) (by kernel_rfl) ?_
        refine XD.isTrue 30 rfl (by rw [bits3 f hf.1 hf.2]; simp [*]) ?_
        refine XD.take (i := 5) (l' := (lb 28 63)) (oA B5 [1, 1, 1, 1, 1, 1, 0] 5) (.v (.bool (band .u8 f 4 != 0))) QOk.ctxG (by kernel_rfl) (by kernel_rfl) (by kernel_rfl) (by kernel_rfl) (by kernel_rfl) ?_
        refine XD.take (i := 6) (l' := (lb 28 127)) (oA B5 [1, 1, 1, 1, 1, 1, 0] 6) (.v (.bool (band .u8 f 2 != 0))) QOk.ctxG (by kernel_rfl) (by kernel_rfl) (by kernel_rfl) (by kernel_rfl) (by kernel_rfl) ?_
        refine XD.take (i := 7) (l' := (lb 28 255)) (oA B5 [1, 1, 1, 1, 1, 1, 0] 7) (.v (.bool (band .u8 f 1 != 0))) QOk.ctxG (by kernel_rfl) (by kernel_rfl) (by kernel_rfl) (by kernel_rfl) (by kernel_rfl) ?_
        refine XD.take (i := 9) (l' := (lb 28 767)) (oA B5 [1, 1, 1, 1, 1, 1, 0] 9) (.v (.int .u8 7)) QOk.ctxG (by kernel_rfl) (by kernel_rfl) (by kernel_rfl) (by kernel_rfl) (by kernel_rfl) ?_
        refine XD.norm [2, 4, 6, 30, 31, 32, 33, 35] [4] ⟨53, [(2, .v (.int .u8 g)), (4, .own 4 0), (6, .v (.bool false)), (30, .v (.bool true)), (31, .v (.bool (band .u8 f 4 != 0))), (32, .v (.bool (band .u8 f 2 != 0))), (33, .v (.bool (band .u8 f 1 != 0))), (35, .v (.int .u8 7))], [(4, ⟨31, [.v (.int .u16 s0), .v (.int .u16 s1), .v (.int .u32 s2), .v (.int .u32 s3), .v (.int .u8 s4), .v (.int .u8 s5), .v (.int .u8 s6), .v (.int .u16 s7), .v (.int .u16 s8), .v (.int .u16 s9)]⟩)]⟩ (by kernel_rfl) ⟨⟨fun _ h => (by cases h; rfl), rfl⟩, trivial⟩ ?_
        refine XD.one (i := 8) (l' := (lb 28 1023)) (oA B5 [1, 1, 1, 1, 1, 1, 0] 8) (by kernel_rfl) (by kernel_rfl) (by kernel_rfl) ?_
        refine X.callG (f := 36) (l := [.v (.bool (band .u8 f 4 != 0)), .v (.bool (band .u8 f 2 != 0)), .v (.bool (band .u8 f 1 != 0))]) [.bool (band .u8 f 4 != 0), .bool (band .u8 f 2 != 0), .bool (band .u8 f 1 != 0)] 0 (by kernel_rfl) (by kernel_rfl) (by kernel_rfl) (Ace_ok (band .u8 f 4 != 0) (band .u8 f 2 != 0) (band .u8 f 1 != 0) _) ?_
        rintro v6 G6 rows6 hG6 ⟨rfl, rfl⟩
        refine X.back ⟨⟨⟨fun _ h => (by cases h; rfl), rfl⟩, trivial⟩, hG6.le, rfl, ?_⟩
        refine XD.take (i := 10) (l' := (lb 28 2047)) (oA B5 [1, 1, 1, 1, 1, 1, 0] 10) (.v (.bool ((aceN (band .u8 f 4 != 0) (band .u8 f 2 != 0) (band .u8 f 1 != 0)) == 7))) QOk.ctxG (by kernel_rfl) (by kernel_rfl) (by kernel_rfl) (by kernel_rfl) (by kernel_rfl) ?_
        refine XD.take (i := 11) (l' := (lb 28 4095)) (oA B5 [1, 1, 1, 1, 1, 1, 0] 11) (.v (.bool ((aceN (band .u8 f 4 != 0) (band .u8 f 2 != 0) (band .u8 f 1 != 0)) == 7))) QOk.ctxG (by kernel_rfl) (by kernel_rfl) (by kernel_rfl) (by kernel_rfl) (by kernel_rfl) ?_
        refine XD.take (i := 12) (l' := (lb 28 8191)) (oA B5 [1, 1, 1, 1, 1, 1, 0] 12) (.v (.bool ((aceN (band .u8 f 4 != 0) (band .u8 f 2 != 0) (band .u8 f 1 != 0)) == 7))) QOk.ctxG (by kernel_rfl) (by kernel_rfl) (by kernel_rfl) (by kernel_rfl) (by kernel_rfl) ?_
        refine XD.isTrue 38 rfl (by simp [aceN, *]) ?_
        refine XD.take (i := 13) (l' := (lb 28 16383)) (oA B5 [1, 1, 1, 1, 1, 1, 0] 13) (.v (.agg #[.int .u16 s0, .int .u16 s1, .int .u32 s2, .int .u32 s3, .int .u8 s4, .int .u8 s5, .int .u8 s6, .int .u16 s7, .int .u16 s8, .int .u16 s9])) QOk.ctxG (by kernel_rfl) (by kernel_rfl) (by kernel_rfl) (by kernel_rfl) (by kernel_rfl) ?_
        refine XD.take (i := 14) (l' := (lb 28 32767)) (oA B5 [1, 1, 1, 1, 1, 1, 0] 14) (.v (.int .u8 g)) QOk.ctxG (by kernel_rfl) (by kernel_rfl) (by kernel_rfl) (by kernel_rfl) (by kernel_rfl) ?_
        refine XD.take (i := 16) (l' := (lb 28 98303)) (oA B5 [1, 1, 1, 1, 1, 1, 0] 16) (.own 4 6) QOk.ctxG (by kernel_rfl) (by kernel_rfl) (by kernel_rfl) (by kernel_rfl) (by kernel_rfl) ?_
        refine XD.take (i := 17) (l' := (lb 28 229375)) (oA B5 [1, 1, 1, 1, 1, 1, 0] 17) (.v (.int .u8 s6)) QOk.ctxG (by kernel_rfl) (by kernel_rfl) (by kernel_rfl) (by kernel_rfl) (by kernel_rfl) ?_
        refine XD.take (i := 18) (l' := (lb 28 491519)) (oA B5 [1, 1, 1, 1, 1, 1, 0] 18) (.v (.int .u8 (IntKind.u8.wrap (255 - s6)))) QOk.ctxG (by kernel_rfl) (by kernel_rfl) (by kernel_rfl) (by kernel_rfl) (by kernel_rfl) ?_
        refine XD.take (i := 19) (l' := (lb 28 1015807)) (oA B5 [1, 1, 1, 1, 1, 1, 0] 19) (.v (.int .u8 g)) QOk.ctxG (by kernel_rfl) (by kernel_rfl) (by kernel_rfl) (by kernel_rfl) (by kernel_rfl) ?_
        refine XD.take (i := 20) (l' := (lb 28 2064383)) (oA B5 [1, 1, 1, 1, 1, 1, 0] 20) (.v (.int .u8 (band .u8 (IntKind.u8.wrap (255 - s6)) g))) QOk.ctxG (by kernel_rfl) (by kernel_rfl) (by kernel_rfl) (by kernel_rfl) (by kernel_rfl) ?_
        refine XD.take (i := 21) (l' := (lb 28 4161535)) (oA B5 [1, 1, 1, 1, 1, 1, 0] 21) (.v (.bool ((band .u8 (IntKind.u8.wrap (255 - s6)) g) == 0))) QOk.ctxG (by kernel_rfl) (by kernel_rfl) (by kernel_rfl) (by kernel_rfl) (by kernel_rfl) ?_
        refine XD.norm [4, 6, 38, 39, 40, 47] [4] ⟨53, [(4, .own 4 0), (6, .v (.bool false)), (38, .v (.bool true)), (39, .v (.agg #[.int .u16 s0, .int .u16 s1, .int .u32 s2, .int .u32 s3, .int .u8 s4, .int .u8 s5, .int .u8 s6, .int .u16 s7, .int .u16 s8, .int .u16 s9])), (40, .v (.int .u8 g)), (47, .v (.bool ((band .u8 (IntKind.u8.wrap (255 - s6)) g) == 0)))], [(4, ⟨31, [.v (.int .u16 s0), .v (.int .u16 s1), .v (.int .u32 s2), .v (.int .u32 s3), .v (.int .u8 s4), .v (.int .u8 s5), .v (.int .u8 s6), .v (.int .u16 s7), .v (.int .u16 s8), .v (.int .u16 s9)]⟩)]⟩ (by kernel_rfl) ⟨⟨fun _ h => (by cases h; rfl), rfl⟩, trivial⟩ ?_
        refine XD.one (i := 15) (l' := (lb 28 4194303)) (oA B5 [1, 1, 1, 1, 1, 1, 0] 15) (by kernel_rfl) (by kernel_rfl) (by kernel_rfl) ?_
        refine X.callG (f := 37) (l := [.v (.agg #[.int .u16 s0, .int .u16 s1, .int .u32 s2, .int .u32 s3, .int .u8 s4, .int .u8 s5, .int .u8 s6, .int .u16 s7, .int .u16 s8, .int .u16 s9]), .v (.int .u8 g)]) [.agg #[.int .u16 s0, .int .u16 s1, .int .u32 s2, .int .u32 s3, .int .u8 s4, .int .u8 s5, .int .u8 s6, .int .u16 s7, .int .u16 s8, .int .u16 s9], .int .u8 g] 0 (by kernel_rfl) (by kernel_rfl) (by kernel_rfl) (Has_ok s0 s1 s2 s3 s4 s5 s6 s7 s8 s9 g _) ?_
        rintro v7 G7 rows7 hG7 ⟨rfl, rfl⟩
        refine X.back ⟨⟨⟨fun _ h => (by cases h; rfl), rfl⟩, trivial⟩, (hG6.trans hG7).le, rfl, ?_⟩
        refine XD.take (i := 22) (l' := (lb 28 8388607)) (oA B5 [1, 1, 1, 1, 1, 1, 0] 22) (.v (.bool ((band .u8 s6 g == g) == ((band .u8 (IntKind.u8.wrap (255 - s6)) g) == 0)))) QOk.ctxG (by kernel_rfl) (by kernel_rfl) (by kernel_rfl) (by kernel_rfl) (by kernel_rfl) ?_
        refine XD.take (i := 23) (l' := (lb 28 16777215)) (oA B5 [1, 1, 1, 1, 1, 1, 0] 23) (.v (.bool ((band .u8 s6 g == g) == ((band .u8 (IntKind.u8.wrap (255 - s6)) g) == 0)))) QOk.ctxG (by kernel_rfl) (by kernel_rfl) (by kernel_rfl) (by kernel_rfl) (by kernel_rfl) ?_
        refine XD.take (i := 24) (l' := (lb 28 33554431)) (oA B5 [1, 1, 1, 1, 1, 1, 0] 24) (.v (.bool ((band .u8 s6 g == g) == ((band .u8 (IntKind.u8.wrap (255 - s6)) g) == 0)))) QOk.ctxG (by kernel_rfl) (by kernel_rfl) (by kernel_rfl) (by kernel_rfl) (by kernel_rfl) ?_
        refine XD.isTrue 50 rfl (hasBits s6 g h6.1 h6.2 hg.1 hg.2) ?_
        refine XD.norm [4, 6, 50] [4] ⟨53, [(4, .own 4 0), (6, .v (.bool false)), (50, .v (.bool true))], [(4, ⟨31, [.v (.int .u16 s0), .v (.int .u16 s1), .v (.int .u32 s2), .v (.int .u32 s3), .v (.int .u8 s4), .v (.int .u8 s5), .v (.int .u8 s6), .v (.int .u16 s7), .v (.int .u16 s8), .v (.int .u16 s9)]⟩)]⟩ (by kernel_rfl) ⟨⟨fun _ h => (by cases h; rfl), rfl⟩, trivial⟩ ?_
        refine XD.one (i := 25) (l' := (lb 28 67108863)) (oA B5 [1, 1, 1, 1, 1, 1, 0] 25) (by kernel_rfl) (by kernel_rfl) (by kernel_rfl) ?_
        refine X.callG (f := 34) (l := []) [] 0 (by kernel_rfl) (by kernel_rfl) (by kernel_rfl) (works11_ok _) ?_
        rintro v8 G8 rows8 hG8 ⟨rfl, rfl⟩
        refine X.back ⟨⟨⟨fun _ h => (by cases h; rfl), rfl⟩, trivial⟩, ((hG6.trans hG7).trans hG8).le, rfl, ?_⟩
        refine XD.take (i := 26) (l' := (lb 28 134217727)) (oA B5 [1, 1, 1, 1, 1, 1, 0] 26) (.v (.bool true)) QOk.ctxG (by kernel_rfl) (by kernel_rfl) (by kernel_rfl) (by kernel_rfl) (by kernel_rfl) ?_
        refine XD.take (i := 27) (l' := (lb 28 268435455)) (oA B5 [1, 1, 1, 1, 1, 1, 0] 27) (.v (.bool true)) QOk.ctxG (by kernel_rfl) (by kernel_rfl) (by kernel_rfl) (by kernel_rfl) (by kernel_rfl) ?_
        refine XD.done (by kernel_rfl) ?_
        refine X.run 2 [6] [] (.ex .ret) [] ⟨53, [(6, .v (.bool true))], []⟩ (by kernel_rfl) ?_
        refine doneG (.inl rfl) [.bool true] [] (by kernel_rfl) rfl rfl ((((hG1.trans hG6).trans hG7).trans hG8)) ?_
        -- end 1 (TTT)
        exact ⟨rfl, rfl⟩
      · -- slot 23: band .u8 f 1 != 0 is False
        replace h4 : band .u8 f 1 = 0 := by simpa using h4
        refine X.run 4 [0, 2, 4, 6, 7, 8, 9, 10] [4] (.code (cA B5 [1, 1, 1, 1, 1, 1, 0])) [.seq (cA B5 [1, 1, 1, 1, 1, 1, 1])] ⟨53, [(0, .v (.int .u8 f)), (2, .v (.int .u8 g)), (4, .own 4 0), (6, .v (.bool false)), (7, .v (.bool (band .u8 f 4 != 0))), (8, .v (.bool (band .u8 f 2 != 0))), (9, .v (.bool (band .u8 f 1 != 0))), (10, .v (.int .u8 6))], [(4, ⟨31, [.v (.int .u16 s0), .v (.int .u16 s1), .v (.int .u32 s2), .v (.int .u32 s3), .v (.int .u8 s4), .v (.int .u8 s5), .v (.int .u8 s6), .v (.int .u16 s7), .v (.int .u16 s8), .v (.int .u16 s9)]⟩)]⟩ (by kernel_rfl) ?_
        refine XD.open (id := 9) (arr := aA B5 [1, 1, 1, 1, 1, 1, 0]) 28 [⟨some 4, 4, 31, [.v (.int .u16 s0), .v (.int .u16 s1), .v (.int .u32 s2), .v (.int .u32 s3), .v (.int .u8 s4), .v (.int .u8 s5), .v (.int .u8 s6), .v (.int .u16 s7), .v (.int .u16 s8), .v (.int .u16 s9)]⟩] [] [] (by kernel_rfl) (by kernel_rfl) (by kernel_rfl) (by kernel_rfl) (by kernel_rfl) ⟨⟨fun _ h => (by cases h; rfl), rfl⟩, trivial⟩ (by intro p hp hn; simp only [List.mem_cons, List.not_mem_nil, or_false] at hp; rcases hp with rfl <;> first | (cases hn; done) | exact absurd _ (Nat.le_of_ble_eq_true rfl)) rfl (fun ρ0 => ?_)
        refine XD.take (i := 0) (l' := (lb 28 1)) (oA B5 [1, 1, 1, 1, 1, 1, 0] 0) (.v (.int .u8 6)) QOk.ctxG (by kernel_rfl) (by kernel_rfl) (by kernel_rfl) (by kernel_rfl) (by kernel_rfl) ?_
        refine XD.take (i := 1) (l' := (lb 28 3)) (oA B5 [1, 1, 1, 1, 1, 1, 0] 1) (.v (.int .u8 f)) QOk.ctxG (by kernel_rfl) (by kernel_rfl) (by kernel_rfl) (by kernel_rfl) (by kernel_rfl) ?_
        refine XD.take (i := 2) (l' := (lb 28 7)) (oA B5 [1, 1, 1, 1, 1, 1, 0] 2) (.v (.int .u8 (Int.tmod f 8))) QOk.ctxG (by kernel_rfl) (by kernel_rfl) (by kernel_rfl) (by kernel_rfl) (by kernel_rfl) ?_
        refine XD.take (i := 3) (l' := (lb 28 15)) (oA B5 [1, 1, 1, 1, 1, 1, 0] 3) (.v (.bool (6 == (Int.tmod f 8)))) QOk.ctxG (by kernel_rfl) (by kernel_rfl) (by kernel_rfl) (by kernel_rfl) (by kernel_rfl) ?_
        refine XD.take (i := 4) (l' := (lb 28 31)) (oA B5 [1, 1, 1, 1, 1, 1, 0] 4) (.v (.bool (6 == (Int.tmod f 8)))) QOk.ctxG (by kernel_rfl) (by kernel_rfl) (by kernel_rfl) (by kernel_rfl) (by kernel_rfl) ?_
        refine XD.isTrue 30 rfl (by rw [bits3 f hf.1 hf.2]; simp [*]) ?_
        refine XD.take (i := 5) (l' := (lb 28 63)) (oA B5 [1, 1, 1, 1, 1, 1, 0] 5) (.v (.bool (band .u8 f 4 != 0))) QOk.ctxG (by kernel_rfl) (by kernel_rfl) (by kernel_rfl) (by kernel_rfl) (by kernel_rfl) ?_
        refine XD.take (i := 6) (l' := (lb 28 127)) (oA B5 [1, 1, 1, 1, 1, 1, 0] 6) (.v (.bool (band .u8 f 2 != 0))) QOk.ctxG (by kernel_rfl) (by kernel_rfl) (by kernel_rfl) (by kernel_rfl) (by kernel_rfl) ?_
        refine XD.take (i := 7) (l' := (lb 28 255)) (oA B5 [1, 1, 1, 1, 1, 1, 0] 7) (.v (.bool (band .u8 f 1 != 0))) QOk.ctxG (by kernel_rfl) (by kernel_rfl) (by kernel_rfl) (by kernel_rfl) (by kernel_rfl) ?_
        refine XD.take (i := 9) (l' := (lb 28 767)) (oA B5 [1, 1, 1, 1, 1, 1, 0] 9) (.v (.int .u8 6)) QOk.ctxG (by kernel_rfl) (by kernel_rfl) (by kernel_rfl) (by kernel_rfl) (by kernel_rfl) ?_
        refine XD.norm [2, 4, 6, 30, 31, 32, 33, 35] [4] ⟨53, [(2, .v (.int .u8 g)), (4, .own 4 0), (6, .v (.bool false)), (30, .v (.bool true)), (31, .v (.bool (band .u8 f 4 != 0))), (32, .v (.bool (band .u8 f 2 != 0))), (33, .v (.bool (band .u8 f 1 != 0))), (35, .v (.int .u8 6))], [(4, ⟨31, [.v (.int .u16 s0), .v (.int .u16 s1), .v (.int .u32 s2), .v (.int .u32 s3), .v (.int .u8 s4), .v (.int .u8 s5), .v (.int .u8 s6), .v (.int .u16 s7), .v (.int .u16 s8), .v (.int .u16 s9)]⟩)]⟩ (by kernel_rfl) ⟨⟨fun _ h => (by cases h; rfl), rfl⟩, trivial⟩ ?_
        refine XD.one (i := 8) (l' := (lb 28 1023)) (oA B5 [1, 1, 1, 1, 1, 1, 0] 8) (by kernel_rfl) (by kernel_rfl) (by kernel_rfl) ?_
        refine X.callG (f := 36) (l := [.v (.bool (band .u8 f 4 != 0)), .v (.bool (band .u8 f 2 != 0)), .v (.bool (band .u8 f 1 != 0))]) [.bool (band .u8 f 4 != 0), .bool (band .u8 f 2 != 0), .bool (band .u8 f 1 != 0)] 0 (by kernel_rfl) (by kernel_rfl) (by kernel_rfl) (Ace_ok (band .u8 f 4 != 0) (band .u8 f 2 != 0) (band .u8 f 1 != 0) _) ?_
        rintro v10 G10 rows10 hG10 ⟨rfl, rfl⟩
        refine X.back ⟨⟨⟨fun _ h => (by cases h; rfl), rfl⟩, trivial⟩, hG10.le, rfl, ?_⟩
        refine XD.take (i := 10) (l' := (lb 28 2047)) (oA B5 [1, 1, 1, 1, 1, 1, 0] 10) (.v (.bool ((aceN (band .u8 f 4 != 0) (band .u8 f 2 != 0) (band .u8 f 1 != 0)) == 6))) QOk.ctxG (by kernel_rfl) (by kernel_rfl) (by kernel_rfl) (by kernel_rfl) (by kernel_rfl) ?_
        refine XD.take (i := 11) (l' := (lb 28 4095)) (oA B5 [1, 1, 1, 1, 1, 1, 0] 11) (.v (.bool ((aceN (band .u8 f 4 != 0) (band .u8 f 2 != 0) (band .u8 f 1 != 0)) == 6))) QOk.ctxG (by kernel_rfl) (by kernel_rfl) (by kernel_rfl) (by kernel_rfl) (by kernel_rfl) ?_
        refine XD.take (i := 12) (l' := (lb 28 8191)) (oA B5 [1, 1, 1, 1, 1, 1, 0] 12) (.v (.bool ((aceN (band .u8 f 4 != 0) (band .u8 f 2 != 0) (band .u8 f 1 != 0)) == 6))) QOk.ctxG (by kernel_rfl) (by kernel_rfl) (by kernel_rfl) (by kernel_rfl) (by kernel_rfl) ?_
        refine XD.isTrue 38 rfl (by simp [aceN, *]) ?_
        refine XD.take (i := 13) (l' := (lb 28 16383)) (oA B5 [1, 1, 1, 1, 1, 1, 0] 13) (.v (.agg #[.int .u16 s0, .int .u16 s1, .int .u32 s2, .int .u32 s3, .int .u8 s4, .int .u8 s5, .int .u8 s6, .int .u16 s7, .int .u16 s8, .int .u16 s9])) QOk.ctxG (by kernel_rfl) (by kernel_rfl) (by kernel_rfl) (by kernel_rfl) (by kernel_rfl) ?_
        refine XD.take (i := 14) (l' := (lb 28 32767)) (oA B5 [1, 1, 1, 1, 1, 1, 0] 14) (.v (.int .u8 g)) QOk.ctxG (by kernel_rfl) (by kernel_rfl) (by kernel_rfl) (by kernel_rfl) (by kernel_rfl) ?_
        refine XD.take (i := 16) (l' := (lb 28 98303)) (oA B5 [1, 1, 1, 1, 1, 1, 0] 16) (.own 4 6) QOk.ctxG (by kernel_rfl) (by kernel_rfl) (by kernel_rfl) (by kernel_rfl) (by kernel_rfl) ?_
        refine XD.take (i := 17) (l' := (lb 28 229375)) (oA B5 [1, 1, 1, 1, 1, 1, 0] 17) (.v (.int .u8 s6)) QOk.ctxG (by kernel_rfl) (by kernel_rfl) (by kernel_rfl) (by kernel_rfl) (by kernel_rfl) ?_
        refine XD.take (i := 18) (l' := (lb 28 491519)) (oA B5 [1, 1, 1, 1, 1, 1, 0] 18) (.v (.int .u8 (IntKind.u8.wrap (255 - s6)))) QOk.ctxG (by kernel_rfl) (by kernel_rfl) (by kernel_rfl) (by kernel_rfl) (by kernel_rfl) ?_
        refine XD.take (i := 19) (l' := (lb 28 1015807)) (oA B5 [1, 1, 1, 1, 1, 1, 0] 19) (.v (.int .u8 g)) QOk.ctxG (by kernel_rfl) (by kernel_rfl) (by kernel_rfl) (by kernel_rfl) (by kernel_rfl) ?_
        refine XD.take (i := 20) (l' := (lb 28 2064383)) (oA B5 [1, 1, 1, 1, 1, 1, 0] 20) (.v (.int .u8 (band .u8 (IntKind.u8.wrap (255 - s6)) g))) QOk.ctxG (by kernel_rfl) (by kernel_rfl) (by kernel_rfl) (by kernel_rfl) (by kernel_rfl) ?_
        refine XD.take (i := 21) (l' := (lb 28 4161535)) (oA B5 [1, 1, 1, 1, 1, 1, 0] 21) (.v (.bool ((band .u8 (IntKind.u8.wrap (255 - s6)) g) == 0))) QOk.ctxG (by kernel_rfl) (by kernel_rfl) (by kernel_rfl) (by kernel_rfl) (by kernel_rfl) ?_
        refine XD.norm [4, 6, 38, 39, 40, 47] [4] ⟨53, [(4, .own 4 0), (6, .v (.bool false)), (38, .v (.bool true)), (39, .v (.agg #[.int .u16 s0, .int .u16 s1, .int .u32 s2, .int .u32 s3, .int .u8 s4, .int .u8 s5, .int .u8 s6, .int .u16 s7, .int .u16 s8, .int .u16 s9])), (40, .v (.int .u8 g)), (47, .v (.bool ((band .u8 (IntKind.u8.wrap (255 - s6)) g) == 0)))], [(4, ⟨31, [.v (.int .u16 s0), .v (.int .u16 s1), .v (.int .u32 s2), .v (.int .u32 s3), .v (.int .u8 s4), .v (.int .u8 s5), .v (.int .u8 s6), .v (.int .u16 s7), .v (.int .u16 s8), .v (.int .u16 s9)]⟩)]⟩ (by kernel_rfl) ⟨⟨fun _ h => (by cases h; rfl), rfl⟩, trivial⟩ ?_
        refine XD.one (i := 15) (l' := (lb 28 4194303)) (oA B5 [1, 1, 1, 1, 1, 1, 0] 15) (by kernel_rfl) (by kernel_rfl) (by kernel_rfl) ?_
        refine X.callG (f := 37) (l := [.v (.agg #[.int .u16 s0, .int .u16 s1, .int .u32 s2, .int .u32 s3, .int .u8 s4, .int .u8 s5, .int .u8 s6, .int .u16 s7, .int .u16 s8, .int .u16 s9]), .v (.int .u8 g)]) [.agg #[.int .u16 s0, .int .u16 s1, .int .u32 s2, .int .u32 s3, .int .u8 s4, .int .u8 s5, .int .u8 s6, .int .u16 s7, .int .u16 s8, .int .u16 s9], .int .u8 g] 0 (by kernel_rfl) (by kernel_rfl) (by kernel_rfl) (Has_ok s0 s1 s2 s3 s4 s5 s6 s7 s8 s9 g _) ?_
        rintro v11 G11 rows11 hG11 ⟨rfl, rfl⟩
        refine X.back ⟨⟨⟨fun _ h => (by cases h; rfl), rfl⟩, trivial⟩, (hG10.trans hG11).le, rfl, ?_⟩
        refine XD.take (i := 22) (l' := (lb 28 8388607)) (oA B5 [1, 1, 1, 1, 1, 1, 0] 22) (.v (.bool ((band .u8 s6 g == g) == ((band .u8 (IntKind.u8.wrap (255 - s6)) g) == 0)))) QOk.ctxG (by kernel_rfl) (by kernel_rfl) (by kernel_rfl) (by kernel_rfl) (by kernel_rfl) ?_
        refine XD.take (i := 23) (l' := (lb 28 16777215)) (oA B5 [1, 1, 1, 1, 1, 1, 0] 23) (.v (.bool ((band .u8 s6 g == g) == ((band .u8 (IntKind.u8.wrap (255 - s6)) g) == 0)))) QOk.ctxG (by kernel_rfl) (by kernel_rfl) (by kernel_rfl) (by kernel_rfl) (by kernel_rfl) ?_
        refine XD.take (i := 24) (l' := (lb 28 33554431)) (oA B5 [1, 1, 1, 1, 1, 1, 0] 24) (.v (.bool ((band .u8 s6 g == g) == ((band .u8 (IntKind.u8.wrap (255 - s6)) g) == 0)))) QOk.ctxG (by kernel_rfl) (by kernel_rfl) (by kernel_rfl) (by kernel_rfl) (by kernel_rfl) ?_
        refine XD.isTrue 50 rfl (hasBits s6 g h6.1 h6.2 hg.1 hg.2) ?_
        refine XD.norm [4, 6, 50] [4] ⟨53, [(4, .own 4 0), (6, .v (.bool false)), (50, .v (.bool true))], [(4, ⟨31, [.v (.int .u16 s0), .v (.int .u16 s1), .v (.int .u32 s2), .v (.int .u32 s3), .v (.int .u8 s4), .v (.int .u8 s5), .v (.int .u8 s6), .v (.int .u16 s7), .v (.int .u16 s8), .v (.int .u16 s9)]⟩)]⟩ (by kernel_rfl) ⟨⟨fun _ h => (by cases h; rfl), rfl⟩, trivial⟩ ?_
        refine XD.one (i := 25) (l' := (lb 28 67108863)) (oA B5 [1, 1, 1, 1, 1, 1, 0] 25) (by kernel_rfl) (by kernel_rfl) (by kernel_rfl) ?_
        refine X.callG (f := 34) (l := []) [] 0 (by kernel_rfl) (by kernel_rfl) (by kernel_rfl) (works11_ok _) ?_
        rintro v12 G12 rows12 hG12 ⟨rfl, rfl⟩
        refine X.back ⟨⟨⟨fun _ h => (by cases h; rfl), rfl⟩, trivial⟩, ((hG10.trans hG11).trans hG12).le, rfl, ?_⟩
        refine XD.take (i := 26) (l' := (lb 28 134217727)) (oA B5 [1, 1, 1, 1, 1, 1, 0] 26) (.v (.bool true)) QOk.ctxG (by kernel_rfl) (by kernel_rfl) (by kernel_rfl) (by kernel_rfl) (by kernel_rfl) ?_
        refine XD.take (i := 27) (l' := (lb 28 268435455)) (oA B5 [1, 1, 1, 1, 1, 1, 0] 27) (.v (.bool true)) QOk.ctxG (by kernel_rfl) (by kernel_rfl) (by kernel_rfl) (by kernel_rfl) (by kernel_rfl) ?_
        refine XD.done (by kernel_rfl) ?_
        refine X.run 2 [6] [] (.ex .ret) [] ⟨53, [(6, .v (.bool true))], []⟩ (by kernel_rfl) ?_
        refine doneG (.inl rfl) [.bool true] [] (by kernel_rfl) rfl rfl ((((hG1.trans hG10).trans hG11).trans hG12)) ?_
        -- end 2 (TTF)
        exact ⟨rfl, rfl⟩
    · -- slot 20: band .u8 f 2 != 0 is False
      replace h3 : band .u8 f 2 = 0 := by simpa using h3
      refine X.run 9 [0, 2, 4, 6, 7, 8, 9, 10, 23] [4] (.code (cA B5 [1, 1, 1, 1, 1, 0, 1])) [.seq (cA B5 [1, 1, 1, 1, 1, 1])] ⟨53, [(0, .v (.int .u8 f)), (2, .v (.int .u8 g)), (4, .own 4 0), (6, .v (.bool false)), (7, .v (.bool (band .u8 f 4 != 0))), (8, .v (.bool (band .u8 f 2 != 0))), (9, .v (.bool (band .u8 f 1 != 0))), (10, .v (.int .u8 4)), (23, .v (.bool (band .u8 f 1 != 0)))], [(4, ⟨31, [.v (.int .u16 s0), .v (.int .u16 s1), .v (.int .u32 s2), .v (.int .u32 s3), .v (.int .u8 s4), .v (.int .u8 s5), .v (.int .u8 s6), .v (.int .u16 s7), .v (.int .u16 s8), .v (.int .u16 s9)]⟩)]⟩ (by kernel_rfl) ?_
      refine X.split 23 rfl (fun h13 => ?_) (fun h13 => ?_)
      · -- slot 23: band .u8 f 1 != 0 is True
        replace h13 : band .u8 f 1 ≠ 0 := by simpa using h13
        refine X.run 8 [0, 2, 4, 6, 7, 8, 9, 10] [4] (.code (cA B5 [1, 1, 1, 1, 1, 1, 0])) [.seq (cA B5 [1, 1, 1, 1, 1, 1, 1])] ⟨53, [(0, .v (.int .u8 f)), (2, .v (.int .u8 g)), (4, .own 4 0), (6, .v (.bool false)), (7, .v (.bool (band .u8 f 4 != 0))), (8, .v (.bool (band .u8 f 2 != 0))), (9, .v (.bool (band .u8 f 1 != 0))), (10, .v (.int .u8 5))], [(4, ⟨31, [.v (.int .u16 s0), .v (.int .u16 s1), .v (.int .u32 s2), .v (.int .u32 s3), .v (.int .u8 s4), .v (.int .u8 s5), .v (.int .u8 s6), .v (.int .u16 s7), .v (.int .u16 s8), .v (.int .u16 s9)]⟩)]⟩ (by kernel_rfl) ?_
        refine XD.open (id := 9) (arr := aA B5 [1, 1, 1, 1, 1, 1, 0]) 28 [⟨some 4, 4, 31, [.v (.int .u16 s0), .v (.int .u16 s1), .v (.int .u32 s2), .v (.int .u32 s3), .v (.int .u8 s4), .v (.int .u8 s5), .v (.int .u8 s6), .v (.int .u16 s7), .v (.int .u16 s8), .v (.int .u16 s9)]⟩] [] [] (by kernel_rfl) (by kernel_rfl) (by kernel_rfl) (by kernel_rfl) (by kernel_rfl) ⟨⟨fun _ h => (by cases h; rfl), rfl⟩, trivial⟩ (by intro p hp hn; simp only [List.mem_cons, List.not_mem_nil, or_false] at hp; rcases hp with rfl <;> first | (cases hn; done) | exact absurd _ (Nat.le_of_ble_eq_true rfl)) rfl (fun ρ0 => ?_)
        refine XD.take (i := 0) (l' := (lb 28 1)) (oA B5 [1, 1, 1, 1, 1, 1, 0] 0) (.v (.int .u8 5)) QOk.ctxG (by kernel_rfl) (by kernel_rfl) (by kernel_rfl) (by kernel_rfl) (by kernel_rfl) ?_
        refine XD.take (i := 1) (l' := (lb 28 3)) (oA B5 [1, 1, 1, 1, 1, 1, 0] 1) (.v (.int .u8 f)) QOk.ctxG (by kernel_rfl) (by kernel_rfl) (by kernel_rfl) (by kernel_rfl) (by kernel_rfl) ?_
        refine XD.take (i := 2) (l' := (lb 28 7)) (oA B5 [1, 1, 1, 1, 1, 1, 0] 2) (.v (.int .u8 (Int.tmod f 8))) QOk.ctxG (by kernel_rfl) (by kernel_rfl) (by kernel_rfl) (by kernel_rfl) (by kernel_rfl) ?_
        refine XD.take (i := 3) (l' := (lb 28 15)) (oA B5 [1, 1, 1, 1, 1, 1, 0] 3) (.v (.bool (5 == (Int.tmod f 8)))) QOk.ctxG (by kernel_rfl) (by kernel_rfl) (by kernel_rfl) (by kernel_rfl) (by kernel_rfl) ?_
        refine XD.take (i := 4) (l' := (lb 28 31)) (oA B5 [1, 1, 1, 1, 1, 1, 0] 4) (.v (.bool (5 == (Int.tmod f 8)))) QOk.ctxG (by kernel_rfl) (by kernel_rfl) (by kernel_rfl) (by kernel_rfl) (by kernel_rfl) ?_
        refine XD.isTrue 30 rfl (by rw [bits3 f hf.1 hf.2]; simp [*]) ?_
        refine XD.take (i := 5) (l' := (lb 28 63)) (oA B5 [1, 1, 1, 1, 1, 1, 0] 5) (.v (.bool (band .u8 f 4 != 0))) QOk.ctxG (by kernel_rfl) (by kernel_rfl) (by kernel_rfl) (by kernel_rfl) (by kernel_rfl) ?_
        refine XD.take (i := 6) (l' := (lb 28 127)) (oA B5 [1, 1, 1, 1, 1, 1, 0] 6) (.v (.bool (band .u8 f 2 != 0))) QOk.ctxG (by kernel_rfl) (by kernel_rfl) (by kernel_rfl) (by kernel_rfl) (by kernel_rfl) ?_
        refine XD.take (i := 7) (l' := (lb 28 255)) (oA B5 [1, 1, 1, 1, 1, 1, 0] 7) (.v (.bool (band .u8 f 1 != 0))) QOk.ctxG (by kernel_rfl) (by kernel_rfl) (by kernel_rfl) (by kernel_rfl) (by kernel_rfl) ?_
        refine XD.take (i := 9) (l' := (lb 28 767)) (oA B5 [1, 1, 1, 1, 1, 1, 0] 9) (.v (.int .u8 5)) QOk.ctxG (by kernel_rfl) (by kernel_rfl) (by kernel_rfl) (by kernel_rfl) (by kernel_rfl) ?_
        refine XD.norm [2, 4, 6, 30, 31, 32, 33, 35] [4] ⟨53, [(2, .v (.int .u8 g)), (4, .own 4 0), (6, .v (.bool false)), (30, .v (.bool true)), (31, .v (.bool (band .u8 f 4 != 0))), (32, .v (.bool (band .u8 f 2 != 0))), (33, .v (.bool (band .u8 f 1 != 0))), (35, .v (.int .u8 5))], [(4, ⟨31, [.v (.int .u16 s0), .v (.int .u16 s1), .v (.int .u32 s2), .v (.int .u32 s3), .v (.int .u8 s4), .v (.int .u8 s5), .v (.int .u8 s6), .v (.int .u16 s7), .v (.int .u16 s8), .v (.int .u16 s9)]⟩)]⟩ (by kernel_rfl) ⟨⟨fun _ h => (by cases h; rfl), rfl⟩, trivial⟩ ?_
        refine XD.one (i := 8) (l' := (lb 28 1023)) (oA B5 [1, 1, 1, 1, 1, 1, 0] 8) (by kernel_rfl) (by kernel_rfl) (by kernel_rfl) ?_
        refine X.callG (f := 36) (l := [.v (.bool (band .u8 f 4 != 0)), .v (.bool (band .u8 f 2 != 0)), .v (.bool (band .u8 f 1 != 0))]) [.bool (band .u8 f 4 != 0), .bool (band .u8 f 2 != 0), .bool (band .u8 f 1 != 0)] 0 (by kernel_rfl) (by kernel_rfl) (by kernel_rfl) (Ace_ok (band .u8 f 4 != 0) (band .u8 f 2 != 0) (band .u8 f 1 != 0) _) ?_
        rintro v15 G15 rows15 hG15 ⟨rfl, rfl⟩
        refine X.back ⟨⟨⟨fun _ h => (by cases h; rfl), rfl⟩, trivial⟩, hG15.le, rfl, ?_⟩
        refine XD.take (i := 10) (l' := (lb 28 2047)) (oA B5 [1, 1, 1, 1, 1, 1, 0] 10) (.v (.bool ((aceN (band .u8 f 4 != 0) (band .u8 f 2 != 0) (band .u8 f 1 != 0)) == 5))) QOk.ctxG (by kernel_rfl) (by kernel_rfl) (by kernel_rfl) (by kernel_rfl) (by kernel_rfl) ?_
        refine XD.take (i := 11) (l' := (lb 28 4095)) (oA B5 [1, 1, 1, 1, 1, 1, 0] 11) (.v (.bool ((aceN (band .u8 f 4 != 0) (band .u8 f 2 != 0) (band .u8 f 1 != 0)) == 5))) QOk.ctxG (by kernel_rfl) (by kernel_rfl) (by kernel_rfl) (by kernel_rfl) (by kernel_rfl) ?_
        refine XD.take (i := 12) (l' := (lb 28 8191)) (oA B5 [1, 1, 1, 1, 1, 1, 0] 12) (.v (.bool ((aceN (band .u8 f 4 != 0) (band .u8 f 2 != 0) (band .u8 f 1 != 0)) == 5))) QOk.ctxG (by kernel_rfl) (by kernel_rfl) (by kernel_rfl) (by kernel_rfl) (by kernel_rfl) ?_
        refine XD.isTrue 38 rfl (by simp [aceN, *]) ?_
        refine XD.take (i := 13) (l' := (lb 28 16383)) (oA B5 [1, 1, 1, 1, 1, 1, 0] 13) (.v (.agg #[.int .u16 s0, .int .u16 s1, .int .u32 s2, .int .u32 s3, .int .u8 s4, .int .u8 s5, .int .u8 s6, .int .u16 s7, .int .u16 s8, .int .u16 s9])) QOk.ctxG (by kernel_rfl) (by kernel_rfl) (by kernel_rfl) (by kernel_rfl) (by kernel_rfl) ?_
        refine XD.take (i := 14) (l' := (lb 28 32767)) (oA B5 [1, 1, 1, 1, 1, 1, 0] 14) (.v (.int .u8 g)) QOk.ctxG (by kernel_rfl) (by kernel_rfl) (by kernel_rfl) (by kernel_rfl) (by kernel_rfl) ?_
        refine XD.take (i := 16) (l' := (lb 28 98303)) (oA B5 [1, 1, 1, 1, 1, 1, 0] 16) (.own 4 6) QOk.ctxG (by kernel_rfl) (by kernel_rfl) (by kernel_rfl) (by kernel_rfl) (by kernel_rfl) ?_
        refine XD.take (i := 17) (l' := (lb 28 229375)) (oA B5 [1, 1, 1, 1, 1, 1, 0] 17) (.v (.int .u8 s6)) QOk.ctxG (by kernel_rfl) (by kernel_rfl) (by kernel_rfl) (by kernel_rfl) (by kernel_rfl) ?_
        refine XD.take (i := 18) (l' := (lb 28 491519)) (oA B5 [1, 1, 1, 1, 1, 1, 0] 18) (.v (.int .u8 (IntKind.u8.wrap (255 - s6)))) QOk.ctxG (by kernel_rfl) (by kernel_rfl) (by kernel_rfl) (by kernel_rfl) (by kernel_rfl) ?_
        refine XD.take (i := 19) (l' := (lb 28 1015807)) (oA B5 [1, 1, 1, 1, 1, 1, 0] 19) (.v (.int .u8 g)) QOk.ctxG (by kernel_rfl) (by kernel_rfl) (by kernel_rfl) (by kernel_rfl) (by kernel_rfl) ?_
        refine XD.take (i := 20) (l' := (lb 28 2064383)) (oA B5 [1, 1, 1, 1, 1, 1, 0] 20) (.v (.int .u8 (band .u8 (IntKind.u8.wrap (255 - s6)) g))) QOk.ctxG (by kernel_rfl) (by kernel_rfl) (by kernel_rfl) (by kernel_rfl) (by kernel_rfl) ?_
        refine XD.take (i := 21) (l' := (lb 28 4161535)) (oA B5 [1, 1, 1, 1, 1, 1, 0] 21) (.v (.bool ((band .u8 (IntKind.u8.wrap (255 - s6)) g) == 0))) QOk.ctxG (by kernel_rfl) (by kernel_rfl) (by kernel_rfl) (by kernel_rfl) (by kernel_rfl) ?_
        refine XD.norm [4, 6, 38, 39, 40, 47] [4] ⟨53, [(4, .own 4 0), (6, .v (.bool false)), (38, .v (.bool true)), (39, .v (.agg #[.int .u16 s0, .int .u16 s1, .int .u32 s2, .int .u32 s3, .int .u8 s4, .int .u8 s5, .int .u8 s6, .int .u16 s7, .int .u16 s8, .int .u16 s9])), (40, .v (.int .u8 g)), (47, .v (.bool ((band .u8 (IntKind.u8.wrap (255 - s6)) g) == 0)))], [(4, ⟨31, [.v (.int .u16 s0), .v (.int .u16 s1), .v (.int .u32 s2), .v (.int .u32 s3), .v (.int .u8 s4), .v (.int .u8 s5), .v (.int .u8 s6), .v (.int .u16 s7), .v (.int .u16 s8), .v (.int .u16 s9)]⟩)]⟩ (by kernel_rfl) ⟨⟨fun _ h => (by cases h; rfl), rfl⟩, trivial⟩ ?_
        refine XD.one (i := 15) (l' := (lb 28 4194303)) (oA B5 [1, 1, 1, 1, 1, 1, 0] 15) (by kernel_rfl) (by kernel_rfl) (by kernel_rfl) ?_
        refine X.callG (f := 37) (l := [.v (.agg #[.int .u16 s0, .int .u16 s1, .int .u32 s2, .int .u32 s3, .int .u8 s4, .int .u8 s5, .int .u8 s6, .int .u16 s7, .int .u16 s8, .int .u16 s9]), .v (.int .u8 g)]) [.agg #[.int .u16 s0, .int .u16 s1, .int .u32 s2, .int .u32 s3, .int .u8 s4, .int .u8 s5, .int .u8 s6, .int .u16 s7, .int .u16 s8, .int .u16 s9], .int .u8 g] 0 (by kernel_rfl) (by kernel_rfl) (by kernel_rfl) (Has_ok s0 s1 s2 s3 s4 s5 s6 s7 s8 s9 g _) ?_
        rintro v16 G16 rows16 hG16 ⟨rfl, rfl⟩
        refine X.back ⟨⟨⟨fun _ h => (by cases h; rfl), rfl⟩, trivial⟩, (hG15.trans hG16).le, rfl, ?_⟩
        refine XD.take (i := 22) (l' := (lb 28 8388607)) (oA B5 [1, 1, 1, 1, 1, 1, 0] 22) (.v (.bool ((band .u8 s6 g == g) == ((band .u8 (IntKind.u8.wrap (255 - s6)) g) == 0)))) QOk.ctxG (by kernel_rfl) (by kernel_rfl) (by kernel_rfl) (by kernel_rfl) (by kernel_rfl) ?_
        refine XD.take (i := 23) (l' := (lb 28 16777215)) (oA B5 [1, 1, 1, 1, 1, 1, 0] 23) (.v (.bool ((band .u8 s6 g == g) == ((band .u8 (IntKind.u8.wrap (255 - s6)) g) == 0)))) QOk.ctxG (by kernel_rfl) (by kernel_rfl) (by kernel_rfl) (by kernel_rfl) (by kernel_rfl) ?_
        refine XD.take (i := 24) (l' := (lb 28 33554431)) (oA B5 [1, 1, 1, 1, 1, 1, 0] 24) (.v (.bool ((band .u8 s6 g == g) == ((band .u8 (IntKind.u8.wrap (255 - s6)) g) == 0)))) QOk.ctxG (by kernel_rfl) (by kernel_rfl) (by kernel_rfl) (by kernel_rfl) (by kernel_rfl) ?_
        refine XD.isTrue 50 rfl (hasBits s6 g h6.1 h6.2 hg.1 hg.2) ?_
        refine XD.norm [4, 6, 50] [4] ⟨53, [(4, .own 4 0), (6, .v (.bool false)), (50, .v (.bool true))], [(4, ⟨31, [.v (.int .u16 s0), .v (.int .u16 s1), .v (.int .u32 s2), .v (.int .u32 s3), .v (.int .u8 s4), .v (.int .u8 s5), .v (.int .u8 s6), .v (.int .u16 s7), .v (.int .u16 s8), .v (.int .u16 s9)]⟩)]⟩ (by kernel_rfl) ⟨⟨fun _ h => (by cases h; rfl), rfl⟩, trivial⟩ ?_
        refine XD.one (i := 25) (l' := (lb 28 67108863)) (oA B5 [1, 1, 1, 1, 1, 1, 0] 25) (by kernel_rfl) (by kernel_rfl) (by kernel_rfl) ?_
        refine X.callG (f := 34) (l := []) [] 0 (by kernel_rfl) (by kernel_rfl) (by kernel_rfl) (works11_ok _) ?_
        rintro v17 G17 rows17 hG17 ⟨rfl, rfl⟩
        refine X.back ⟨⟨⟨fun _ h => (by cases h; rfl), rfl⟩, trivial⟩, ((hG15.trans hG16).trans hG17).le, rfl, ?_⟩
        refine XD.take (i := 26) (l' := (lb 28 134217727)) (oA B5 [1, 1, 1, 1, 1, 1, 0] 26) (.v (.bool true)) QOk.ctxG (by kernel_rfl) (by kernel_rfl) (by kernel_rfl) (by kernel_rfl) (by kernel_rfl) ?_
        refine XD.take (i := 27) (l' := (lb 28 268435455)) (oA B5 [1, 1, 1, 1, 1, 1, 0] 27) (.v (.bool true)) QOk.ctxG (by kernel_rfl) (by kernel_rfl) (by kernel_rfl) (by kernel_rfl) (by kernel_rfl) ?_
        refine XD.done (by kernel_rfl) ?_
        refine X.run 2 [6] [] (.ex .ret) [] ⟨53, [(6, .v (.bool true))], []⟩ (by kernel_rfl) ?_
        refine doneG (.inl rfl) [.bool true] [] (by kernel_rfl) rfl rfl ((((hG1.trans hG15).trans hG16).trans hG17)) ?_
        -- end 3 (TFT)
        exact ⟨rfl, rfl⟩
      · -- slot 23: band .u8 f 1 != 0 is False
        replace h13 : band .u8 f 1 = 0 := by simpa using h13
        refine X.run 4 [0, 2, 4, 6, 7, 8, 9, 10] [4] (.code (cA B5 [1, 1, 1, 1, 1, 1, 0])) [.seq (cA B5 [1, 1, 1, 1, 1, 1, 1])] ⟨53, [(0, .v (.int .u8 f)), (2, .v (.int .u8 g)), (4, .own 4 0), (6, .v (.bool false)), (7, .v (.bool (band .u8 f 4 != 0))), (8, .v (.bool (band .u8 f 2 != 0))), (9, .v (.bool (band .u8 f 1 != 0))), (10, .v (.int .u8 4))], [(4, ⟨31, [.v (.int .u16 s0), .v (.int .u16 s1), .v (.int .u32 s2), .v (.int .u32 s3), .v (.int .u8 s4), .v (.int .u8 s5), .v (.int .u8 s6), .v (.int .u16 s7), .v (.int .u16 s8), .v (.int .u16 s9)]⟩)]⟩ (by kernel_rfl) ?_
        refine XD.open (id := 9) (arr := aA B5 [1, 1, 1, 1, 1, 1, 0]) 28 [⟨some 4, 4, 31, [.v (.int .u16 s0), .v (.int .u16 s1), .v (.int .u32 s2), .v (.int .u32 s3), .v (.int .u8 s4), .v (.int .u8 s5), .v (.int .u8 s6), .v (.int .u16 s7), .v (.int .u16 s8), .v (.int .u16 s9)]⟩] [] [] (by kernel_rfl) (by kernel_rfl) (by kernel_rfl) (by kernel_rfl) (by kernel_rfl) ⟨⟨fun _ h => (by cases h; rfl), rfl⟩, trivial⟩ (by intro p hp hn; simp only [List.mem_cons, List.not_mem_nil, or_false] at hp; rcases hp with rfl <;> first | (cases hn; done) | exact absurd _ (Nat.le_of_ble_eq_true rfl)) rfl (fun ρ0 => ?_)
        refine XD.take (i := 0) (l' := (lb 28 1)) (oA B5 [1, 1, 1, 1, 1, 1, 0] 0) (.v (.int .u8 4)) QOk.ctxG (by kernel_rfl) (by kernel_rfl) (by kernel_rfl) (by kernel_rfl) (by kernel_rfl) ?_
        refine XD.take (i := 1) (l' := (lb 28 3)) (oA B5 [1, 1, 1, 1, 1, 1, 0] 1) (.v (.int .u8 f)) QOk.ctxG (by kernel_rfl) (by kernel_rfl) (by kernel_rfl) (by kernel_rfl) (by kernel_rfl) ?_
        refine XD.take (i := 2) (l' := (lb 28 7)) (oA B5 [1, 1, 1, 1, 1, 1, 0] 2) (.v (.int .u8 (Int.tmod f 8))) QOk.ctxG (by kernel_rfl) (by kernel_rfl) (by kernel_rfl) (by kernel_rfl) (by kernel_rfl) ?_
        refine XD.take (i := 3) (l' := (lb 28 15)) (oA B5 [1, 1, 1, 1, 1, 1, 0] 3) (.v (.bool (4 == (Int.tmod f 8)))) QOk.ctxG (by kernel_rfl) (by kernel_rfl) (by kernel_rfl) (by kernel_rfl) (by kernel_rfl) ?_
        refine XD.take (i := 4) (l' := (lb 28 31)) (oA B5 [1, 1, 1, 1, 1, 1, 0] 4) (.v (.bool (4 == (Int.tmod f 8)))) QOk.ctxG (by kernel_rfl) (by kernel_rfl) (by kernel_rfl) (by kernel_rfl) (by kernel_rfl) ?_
        refine XD.isTrue 30 rfl (by rw [bits3 f hf.1 hf.2]; simp [*]) ?_
        refine XD.take (i := 5) (l' := (lb 28 63)) (oA B5 [1, 1, 1, 1, 1, 1, 0] 5) (.v (.bool (band .u8 f 4 != 0))) QOk.ctxG (by kernel_rfl) (by kernel_rfl) (by kernel_rfl) (by kernel_rfl) (by kernel_rfl) ?_
        refine XD.take (i := 6) (l' := (lb 28 127)) (oA B5 [1, 1, 1, 1, 1, 1, 0] 6) (.v (.bool (band .u8 f 2 != 0))) QOk.ctxG (by kernel_rfl) (by kernel_rfl) (by kernel_rfl) (by kernel_rfl) (by kernel_rfl) ?_
        refine XD.take (i := 7) (l' := (lb 28 255)) (oA B5 [1, 1, 1, 1, 1, 1, 0] 7) (.v (.bool (band .u8 f 1 != 0))) QOk.ctxG (by kernel_rfl) (by kernel_rfl) (by kernel_rfl) (by kernel_rfl) (by kernel_rfl) ?_
        refine XD.take (i := 9) (l' := (lb 28 767)) (oA B5 [1, 1, 1, 1, 1, 1, 0] 9) (.v (.int .u8 4)) QOk.ctxG (by kernel_rfl) (by kernel_rfl) (by kernel_rfl) (by kernel_rfl) (by kernel_rfl) ?_
        refine XD.norm [2, 4, 6, 30, 31, 32, 33, 35] [4] ⟨53, [(2, .v (.int .u8 g)), (4, .own 4 0), (6, .v (.bool false)), (30, .v (.bool true)), (31, .v (.bool (band .u8 f 4 != 0))), (32, .v (.bool (band .u8 f 2 != 0))), (33, .v (.bool (band .u8 f 1 != 0))), (35, .v (.int .u8 4))], [(4, ⟨31, [.v (.int .u16 s0), .v (.int .u16 s1), .v (.int .u32 s2), .v (.int .u32 s3), .v (.int .u8 s4), .v (.int .u8 s5), .v (.int .u8 s6), .v (.int .u16 s7), .v (.int .u16 s8), .v (.int .u16 s9)]⟩)]⟩ (by kernel_rfl) ⟨⟨fun _ h => (by cases h; rfl), rfl⟩, trivial⟩ ?_
        refine XD.one (i := 8) (l' := (lb 28 1023)) (oA B5 [1, 1, 1, 1, 1, 1, 0] 8) (by kernel_rfl) (by kernel_rfl) (by kernel_rfl) ?_
        refine X.callG (f := 36) (l := [.v (.bool (band .u8 f 4 != 0)), .v (.bool (band .u8 f 2 != 0)), .v (.bool (band .u8 f 1 != 0))]) [.bool (band .u8 f 4 != 0), .bool (band .u8 f 2 != 0), .bool (band .u8 f 1 != 0)] 0 (by kernel_rfl) (by kernel_rfl) (by kernel_rfl) (Ace_ok (band .u8 f 4 != 0) (band .u8 f 2 != 0) (band .u8 f 1 != 0) _) ?_
        rintro v19 G19 rows19 hG19 ⟨rfl, rfl⟩
        refine X.back ⟨⟨⟨fun _ h => (by cases h; rfl), rfl⟩, trivial⟩, hG19.le, rfl, ?_⟩
        refine XD.take (i := 10) (l' := (lb 28 2047)) (oA B5 [1, 1, 1, 1, 1, 1, 0] 10) (.v (.bool ((aceN (band .u8 f 4 != 0) (band .u8 f 2 != 0) (band .u8 f 1 != 0)) == 4))) QOk.ctxG (by kernel_rfl) (by kernel_rfl) (by kernel_rfl) (by kernel_rfl) (by kernel_rfl) ?_
        refine XD.take (i := 11) (l' := (lb 28 4095)) (oA B5 [1, 1, 1, 1, 1, 1, 0] 11) (.v (.bool ((aceN (band .u8 f 4 != 0) (band .u8 f 2 != 0) (band .u8 f 1 != 0)) == 4))) QOk.ctxG (by kernel_rfl) (by kernel_rfl) (by kernel_rfl) (by kernel_rfl) (by kernel_rfl) ?_
        refine XD.take (i := 12) (l' := (lb 28 8191)) (oA B5 [1, 1, 1, 1, 1, 1, 0] 12) (.v (.bool ((aceN (band .u8 f 4 != 0) (band .u8 f 2 != 0) (band .u8 f 1 != 0)) == 4))) QOk.ctxG (by kernel_rfl) (by kernel_rfl) (by kernel_rfl) (by kernel_rfl) (by kernel_rfl) ?_
        refine XD.isTrue 38 rfl (by simp [aceN, *]) ?_
        refine XD.take (i := 13) (l' := (lb 28 16383)) (oA B5 [1, 1, 1, 1, 1, 1, 0] 13) (.v (.agg #[.int .u16 s0, .int .u16 s1, .int .u32 s2, .int .u32 s3, .int .u8 s4, .int .u8 s5, .int .u8 s6, .int .u16 s7, .int .u16 s8, .int .u16 s9])) QOk.ctxG (by kernel_rfl) (by kernel_rfl) (by kernel_rfl) (by kernel_rfl) (by kernel_rfl) ?_
        refine XD.take (i := 14) (l' := (lb 28 32767)) (oA B5 [1, 1, 1, 1, 1, 1, 0] 14) (.v (.int .u8 g)) QOk.ctxG (by kernel_rfl) (by kernel_rfl) (by kernel_rfl) (by kernel_rfl) (by kernel_rfl) ?_
        refine XD.take (i := 16) (l' := (lb 28 98303)) (oA B5 [1, 1, 1, 1, 1, 1, 0] 16) (.own 4 6) QOk.ctxG (by kernel_rfl) (by kernel_rfl) (by kernel_rfl) (by kernel_rfl) (by kernel_rfl) ?_
        refine XD.take (i := 17) (l' := (lb 28 229375)) (oA B5 [1, 1, 1, 1, 1, 1, 0] 17) (.v (.int .u8 s6)) QOk.ctxG (by kernel_rfl) (by kernel_rfl) (by kernel_rfl) (by kernel_rfl) (by kernel_rfl) ?_
        refine XD.take (i := 18) (l' := (lb 28 491519)) (oA B5 [1, 1, 1, 1, 1, 1, 0] 18) (.v (.int .u8 (IntKind.u8.wrap (255 - s6)))) QOk.ctxG (by kernel_rfl) (by kernel_rfl) (by kernel_rfl) (by kernel_rfl) (by kernel_rfl) ?_
        refine XD.take (i := 19) (l' := (lb 28 1015807)) (oA B5 [1, 1, 1, 1, 1, 1, 0] 19) (.v (.int .u8 g)) QOk.ctxG (by kernel_rfl) (by kernel_rfl) (by kernel_rfl) (by kernel_rfl) (by kernel_rfl) ?_
        refine XD.take (i := 20) (l' := (lb 28 2064383)) (oA B5 [1, 1, 1, 1, 1, 1, 0] 20) (.v (.int .u8 (band .u8 (IntKind.u8.wrap (255 - s6)) g))) QOk.ctxG (by kernel_rfl) (by kernel_rfl) (by kernel_rfl) (by kernel_rfl) (by kernel_rfl) ?_
        refine XD.take (i := 21) (l' := (lb 28 4161535)) (oA B5 [1, 1, 1, 1, 1, 1, 0] 21) (.v (.bool ((band .u8 (IntKind.u8.wrap (255 - s6)) g) == 0))) QOk.ctxG (by kernel_rfl) (by kernel_rfl) (by kernel_rfl) (by kernel_rfl) (by kernel_rfl) ?_
        refine XD.norm [4, 6, 38, 39, 40, 47] [4] ⟨53, [(4, .own 4 0), (6, .v (.bool false)), (38, .v (.bool true)), (39, .v (.agg #[.int .u16 s0, .int .u16 s1, .int .u32 s2, .int .u32 s3, .int .u8 s4, .int .u8 s5, .int .u8 s6, .int .u16 s7, .int .u16 s8, .int .u16 s9])), (40, .v (.int .u8 g)), (47, .v (.bool ((band .u8 (IntKind.u8.wrap (255 - s6)) g) == 0)))], [(4, ⟨31, [.v (.int .u16 s0), .v (.int .u16 s1), .v (.int .u32 s2), .v (.int .u32 s3), .v (.int .u8 s4), .v (.int .u8 s5), .v (.int .u8 s6), .v (.int .u16 s7), .v (.int .u16 s8), .v (.int .u16 s9)]⟩)]⟩ (by kernel_rfl) ⟨⟨fun _ h => (by cases h; rfl), rfl⟩, trivial⟩ ?_
        refine XD.one (i := 15) (l' := (lb 28 4194303)) (oA B5 [1, 1, 1, 1, 1, 1, 0] 15) (by kernel_rfl) (by kernel_rfl) (by kernel_rfl) ?_
        refine X.callG (f := 37) (l := [.v (.agg #[.int .u16 s0, .int .u16 s1, .int .u32 s2, .int .u32 s3, .int .u8 s4, .int .u8 s5, .int .u8 s6, .int .u16 s7, .int .u16 s8, .int .u16 s9]), .v (.int .u8 g)]) [.agg #[.int .u16 s0, .int .u16 s1, .int .u32 s2, .int .u32 s3, .int .u8 s4, .int .u8 s5, .int .u8 s6, .int .u16 s7, .int .u16 s8, .int .u16 s9], .int .u8 g] 0 (by kernel_rfl) (by kernel_rfl) (by kernel_rfl) (Has_ok s0 s1 s2 s3 s4 s5 s6 s7 s8 s9 g _) ?_
        rintro v20 G20 rows20 hG20 ⟨rfl, rfl⟩
        refine X.back ⟨⟨⟨fun _ h => (by cases h; rfl), rfl⟩, trivial⟩, (hG19.trans hG20).le, rfl, ?_⟩
        refine XD.take (i := 22) (l' := (lb 28 8388607)) (oA B5 [1, 1, 1, 1, 1, 1, 0] 22) (.v (.bool ((band .u8 s6 g == g) == ((band .u8 (IntKind.u8.wrap (255 - s6)) g) == 0)))) QOk.ctxG (by kernel_rfl) (by kernel_rfl) (by kernel_rfl) (by kernel_rfl) (by kernel_rfl) ?_
        refine XD.take (i := 23) (l' := (lb 28 16777215)) (oA B5 [1, 1, 1, 1, 1, 1, 0] 23) (.v (.bool ((band .u8 s6 g == g) == ((band .u8 (IntKind.u8.wrap (255 - s6)) g) == 0)))) QOk.ctxG (by kernel_rfl) (by kernel_rfl) (by kernel_rfl) (by kernel_rfl) (by kernel_rfl) ?_
        refine XD.take (i := 24) (l' := (lb 28 33554431)) (oA B5 [1, 1, 1, 1, 1, 1, 0] 24) (.v (.bool ((band .u8 s6 g == g) == ((band .u8 (IntKind.u8.wrap (255 - s6)) g) == 0)))) QOk.ctxG (by kernel_rfl) (by kernel_rfl) (by kernel_rfl) (by kernel_rfl) (by kernel_rfl) ?_
        refine XD.isTrue 50 rfl (hasBits s6 g h6.1 h6.2 hg.1 hg.2) ?_
        refine XD.norm [4, 6, 50] [4] ⟨53, [(4, .own 4 0), (6, .v (.bool false)), (50, .v (.bool true))], [(4, ⟨31, [.v (.int .u16 s0), .v (.int .u16 s1), .v (.int .u32 s2), .v (.int .u32 s3), .v (.int .u8 s4), .v (.int .u8 s5), .v (.int .u8 s6), .v (.int .u16 s7), .v (.int .u16 s8), .v (.int .u16 s9)]⟩)]⟩ (by kernel_rfl) ⟨⟨fun _ h => (by cases h; rfl), rfl⟩, trivial⟩ ?_
        refine XD.one (i := 25) (l' := (lb 28 67108863)) (oA B5 [1, 1, 1, 1, 1, 1, 0] 25) (by kernel_rfl) (by kernel_rfl) (by kernel_rfl) ?_
        refine X.callG (f := 34) (l := []) [] 0 (by kernel_rfl) (by kernel_rfl) (by kernel_rfl) (works11_ok _) ?_
        rintro v21 G21 rows21 hG21 ⟨rfl, rfl⟩
        refine X.back ⟨⟨⟨fun _ h => (by cases h; rfl), rfl⟩, trivial⟩, ((hG19.trans hG20).trans hG21).le, rfl, ?_⟩
        refine XD.take (i := 26) (l' := (lb 28 134217727)) (oA B5 [1, 1, 1, 1, 1, 1, 0] 26) (.v (.bool true)) QOk.ctxG (by kernel_rfl) (by kernel_rfl) (by kernel_rfl) (by kernel_rfl) (by kernel_rfl) ?_
        refine XD.take (i := 27) (l' := (lb 28 268435455)) (oA B5 [1, 1, 1, 1, 1, 1, 0] 27) (.v (.bool true)) QOk.ctxG (by kernel_rfl) (by kernel_rfl) (by kernel_rfl) (by kernel_rfl) (by kernel_rfl) ?_
        refine XD.done (by kernel_rfl) ?_
        refine X.run 2 [6] [] (.ex .ret) [] ⟨53, [(6, .v (.bool true))], []⟩ (by kernel_rfl) ?_
        refine doneG (.inl rfl) [.bool true] [] (by kernel_rfl) rfl rfl ((((hG1.trans hG19).trans hG20).trans hG21)) ?_
        -- end 4 (TFF)
        exact ⟨rfl, rfl⟩
  · -- slot 17: band .u8 f 4 != 0 is False
    replace h2 : band .u8 f 4 = 0 := by simpa using h2
    refine X.run 9 [0, 2, 4, 6, 7, 8, 9, 10, 20] [4] (.code (cA B5 [1, 1, 1, 1, 0, 1])) [.seq (cA B5 [1, 1, 1, 1, 1])] ⟨53, [(0, .v (.int .u8 f)), (2, .v (.int .u8 g)), (4, .own 4 0), (6, .v (.bool false)), (7, .v (.bool (band .u8 f 4 != 0))), (8, .v (.bool (band .u8 f 2 != 0))), (9, .v (.bool (band .u8 f 1 != 0))), (10, .v (.int .u8 0)), (20, .v (.bool (band .u8 f 2 != 0)))], [(4, ⟨31, [.v (.int .u16 s0), .v (.int .u16 s1), .v (.int .u32 s2), .v (.int .u32 s3), .v (.int .u8 s4), .v (.int .u8 s5), .v (.int .u8 s6), .v (.int .u16 s7), .v (.int .u16 s8), .v (.int .u16 s9)]⟩)]⟩ (by kernel_rfl) ?_
    refine X.split 20 rfl (fun h22 => ?_) (fun h22 => ?_)
    · -- slot 20: band .u8 f 2 != 0 is True
      replace h22 : band .u8 f 2 ≠ 0 := by simpa using h22
      refine X.run 13 [0, 2, 4, 6, 7, 8, 9, 10, 23] [4] (.code (cA B5 [1, 1, 1, 1, 1, 0, 1])) [.seq (cA B5 [1, 1, 1, 1, 1, 1])] ⟨53, [(0, .v (.int .u8 f)), (2, .v (.int .u8 g)), (4, .own 4 0), (6, .v (.bool false)), (7, .v (.bool (band .u8 f 4 != 0))), (8, .v (.bool (band .u8 f 2 != 0))), (9, .v (.bool (band .u8 f 1 != 0))), (10, .v (.int .u8 2)), (23, .v (.bool (band .u8 f 1 != 0)))], [(4, ⟨31, [.v (.int .u16 s0), .v (.int .u16 s1), .v (.int .u32 s2), .v (.int .u32 s3), .v (.int .u8 s4), .v (.int .u8 s5), .v (.int .u8 s6), .v (.int .u16 s7), .v (.int .u16 s8), .v (.int .u16 s9)]⟩)]⟩ (by kernel_rfl) ?_
      refine X.split 23 rfl (fun h23 => ?_) (fun h23 => ?_)
      · -- slot 23: band .u8 f 1 != 0 is True
        replace h23 : band .u8 f 1 ≠ 0 := by simpa using h23
        refine X.run 8 [0, 2, 4, 6, 7, 8, 9, 10] [4] (.code (cA B5 [1, 1, 1, 1, 1, 1, 0])) [.seq (cA B5 [1, 1, 1, 1, 1, 1, 1])] ⟨53, [(0, .v (.int .u8 f)), (2, .v (.int .u8 g)), (4, .own 4 0), (6, .v (.bool false)), (7, .v (.bool (band .u8 f 4 != 0))), (8, .v (.bool (band .u8 f 2 != 0))), (9, .v (.bool (band .u8 f 1 != 0))), (10, .v (.int .u8 3))], [(4, ⟨31, [.v (.int .u16 s0), .v (.int .u16 s1), .v (.int .u32 s2), .v (.int .u32 s3), .v (.int .u8 s4), .v (.int .u8 s5), .v (.int .u8 s6), .v (.int .u16 s7), .v (.int .u16 s8), .v (.int .u16 s9)]⟩)]⟩ (by kernel_rfl) ?_
        refine XD.open (id := 9) (arr := aA B5 [1, 1, 1, 1, 1, 1, 0]) 28 [⟨some 4, 4, 31, [.v (.int .u16 s0), .v (.int .u16 s1), .v (.int .u32 s2), .v (.int .u32 s3), .v (.int .u8 s4), .v (.int .u8 s5), .v (.int .u8 s6), .v (.int .u16 s7), .v (.int .u16 s8), .v (.int .u16 s9)]⟩] [] [] (by kernel_rfl) (by kernel_rfl) (by kernel_rfl) (by kernel_rfl) (by kernel_rfl) ⟨⟨fun _ h => (by cases h; rfl), rfl⟩, trivial⟩ (by intro p hp hn; simp only [List.mem_cons, List.not_mem_nil, or_false] at hp; rcases hp with rfl <;> first | (cases hn; done) | exact absurd _ (Nat.le_of_ble_eq_true rfl)) rfl (fun ρ0 => ?_)
        refine XD.take (i := 0) (l' := (lb 28 1)) (oA B5 [1, 1, 1, 1, 1, 1, 0] 0) (.v (.int .u8 3)) QOk.ctxG (by kernel_rfl) (by kernel_rfl) (by kernel_rfl) (by kernel_rfl) (by kernel_rfl) ?_
        refine XD.take (i := 1) (l' := (lb 28 3)) (oA B5 [1, 1, 1, 1, 1, 1, 0] 1) (.v (.int .u8 f)) QOk.ctxG (by kernel_rfl) (by kernel_rfl) (by kernel_rfl) (by kernel_rfl) (by kernel_rfl) ?_
        refine XD.take (i := 2) (l' := (lb 28 7)) (oA B5 [1, 1, 1, 1, 1, 1, 0] 2) (.v (.int .u8 (Int.tmod f 8))) QOk.ctxG (by kernel_rfl) (by kernel_rfl) (by kernel_rfl) (by kernel_rfl) (by kernel_rfl) ?_
        refine XD.take (i := 3) (l' := (lb 28 15)) (oA B5 [1, 1, 1, 1, 1, 1, 0] 3) (.v (.bool (3 == (Int.tmod f 8)))) QOk.ctxG (by kernel_rfl) (by kernel_rfl) (by kernel_rfl) (by kernel_rfl) (by kernel_rfl) ?_
        refine XD.take (i := 4) (l' := (lb 28 31)) (oA B5 [1, 1, 1, 1, 1, 1, 0] 4) (.v (.bool (3 == (Int.tmod f 8)))) QOk.ctxG (by kernel_rfl) (by kernel_rfl) (by kernel_rfl) (by kernel_rfl) (by kernel_rfl) ?_
        refine XD.isTrue 30 rfl (by rw [bits3 f hf.1 hf.2]; simp [*]) ?_
        refine XD.take (i := 5) (l' := (lb 28 63)) (oA B5 [1, 1, 1, 1, 1, 1, 0] 5) (.v (.bool (band .u8 f 4 != 0))) QOk.ctxG (by kernel_rfl) (by kernel_rfl) (by kernel_rfl) (by kernel_rfl) (by kernel_rfl) ?_
        refine XD.take (i := 6) (l' := (lb 28 127)) (oA B5 [1, 1, 1, 1, 1, 1, 0] 6) (.v (.bool (band .u8 f 2 != 0))) QOk.ctxG (by kernel_rfl) (by kernel_rfl) (by kernel_rfl) (by kernel_rfl) (by kernel_rfl) ?_
        refine XD.take (i := 7) (l' := (lb 28 255)) (oA B5 [1, 1, 1, 1, 1, 1, 0] 7) (.v (.bool (band .u8 f 1 != 0))) QOk.ctxG (by kernel_rfl) (by kernel_rfl) (by kernel_rfl) (by kernel_rfl) (by kernel_rfl) ?_
        refine XD.take (i := 9) (l' := (lb 28 767)) (oA B5 [1, 1, 1, 1, 1, 1, 0] 9) (.v (.int .u8 3)) QOk.ctxG (by kernel_rfl) (by kernel_rfl) (by kernel_rfl) (by kernel_rfl) (by kernel_rfl) ?_
        refine XD.norm [2, 4, 6, 30, 31, 32, 33, 35] [4] ⟨53, [(2, .v (.int .u8 g)), (4, .own 4 0), (6, .v (.bool false)), (30, .v (.bool true)), (31, .v (.bool (band .u8 f 4 != 0))), (32, .v (.bool (band .u8 f 2 != 0))), (33, .v (.bool (band .u8 f 1 != 0))), (35, .v (.int .u8 3))], [(4, ⟨31, [.v (.int .u16 s0), .v (.int .u16 s1), .v (.int .u32 s2), .v (.int .u32 s3), .v (.int .u8 s4), .v (.int .u8 s5), .v (.int .u8 s6), .v (.int .u16 s7), .v (.int .u16 s8), .v (.int .u16 s9)]⟩)]⟩ (by kernel_rfl) ⟨⟨fun _ h => (by cases h; rfl), rfl⟩, trivial⟩ ?_
        refine XD.one (i := 8) (l' := (lb 28 1023)) (oA B5 [1, 1, 1, 1, 1, 1, 0] 8) (by kernel_rfl) (by kernel_rfl) (by kernel_rfl) ?_
        refine X.callG (f := 36) (l := [.v (.bool (band .u8 f 4 != 0)), .v (.bool (band .u8 f 2 != 0)), .v (.bool (band .u8 f 1 != 0))]) [.bool (band .u8 f 4 != 0), .bool (band .u8 f 2 != 0), .bool (band .u8 f 1 != 0)] 0 (by kernel_rfl) (by kernel_rfl) (by kernel_rfl) (Ace_ok (band .u8 f 4 != 0) (band .u8 f 2 != 0) (band .u8 f 1 != 0) _) ?_
        rintro v25 G25 rows25 hG25 ⟨rfl, rfl⟩
        refine X.back ⟨⟨⟨fun _ h => (by cases h; rfl), rfl⟩, trivial⟩, hG25.le, rfl, ?_⟩
        refine XD.take (i := 10) (l' := (lb 28 2047)) (oA B5 [1, 1, 1, 1, 1, 1, 0] 10) (.v (.bool ((aceN (band .u8 f 4 != 0) (band .u8 f 2 != 0) (band .u8 f 1 != 0)) == 3))) QOk.ctxG (by kernel_rfl) (by kernel_rfl) (by kernel_rfl) (by kernel_rfl) (by kernel_rfl) ?_
        refine XD.take (i := 11) (l' := (lb 28 4095)) (oA B5 [1, 1, 1, 1, 1, 1, 0] 11) (.v (.bool ((aceN (band .u8 f 4 != 0) (band .u8 f 2 != 0) (band .u8 f 1 != 0)) == 3))) QOk.ctxG (by kernel_rfl) (by kernel_rfl) (by kernel_rfl) (by kernel_rfl) (by kernel_rfl) ?_
        refine XD.take (i := 12) (l' := (lb 28 8191)) (oA B5 [1, 1, 1, 1, 1, 1, 0] 12) (.v (.bool ((aceN (band .u8 f 4 != 0) (band .u8 f 2 != 0) (band .u8 f 1 != 0)) == 3))) QOk.ctxG (by kernel_rfl) (by kernel_rfl) (by kernel_rfl) (by kernel_rfl) (by kernel_rfl) ?_
        refine XD.isTrue 38 rfl (by simp [aceN, *]) ?_
        refine XD.take (i := 13) (l' := (lb 28 16383)) (oA B5 [1, 1, 1, 1, 1, 1, 0] 13) (.v (.agg #[.int .u16 s0, .int .u16 s1, .int .u32 s2, .int .u32 s3, .int .u8 s4, .int .u8 s5, .int .u8 s6, .int .u16 s7, .int .u16 s8, .int .u16 s9])) QOk.ctxG (by kernel_rfl) (by kernel_rfl) (by kernel_rfl) (by kernel_rfl) (by kernel_rfl) ?_
        refine XD.take (i := 14) (l' := (lb 28 32767)) (oA B5 [1, 1, 1, 1, 1, 1, 0] 14) (.v (.int .u8 g)) QOk.ctxG (by kernel_rfl) (by kernel_rfl) (by kernel_rfl) (by kernel_rfl) (by kernel_rfl) ?_
        refine XD.take (i := 16) (l' := (lb 28 98303)) (oA B5 [1, 1, 1, 1, 1, 1, 0] 16) (.own 4 6) QOk.ctxG (by kernel_rfl) (by kernel_rfl) (by kernel_rfl) (by kernel_rfl) (by kernel_rfl) ?_
        refine XD.take (i := 17) (l' := (lb 28 229375)) (oA B5 [1, 1, 1, 1, 1, 1, 0] 17) (.v (.int .u8 s6)) QOk.ctxG (by kernel_rfl) (by kernel_rfl) (by kernel_rfl) (by kernel_rfl) (by kernel_rfl) ?_
        refine XD.take (i := 18) (l' := (lb 28 491519)) (oA B5 [1, 1, 1, 1, 1, 1, 0] 18) (.v (.int .u8 (IntKind.u8.wrap (255 - s6)))) QOk.ctxG (by kernel_rfl) (by kernel_rfl) (by kernel_rfl) (by kernel_rfl) (by kernel_rfl) ?_
        refine XD.take (i := 19) (l' := (lb 28 1015807)) (oA B5 [1, 1, 1, 1, 1, 1, 0] 19) (.v (.int .u8 g)) QOk.ctxG (by kernel_rfl) (by kernel_rfl) (by kernel_rfl) (by kernel_rfl) (by kernel_rfl) ?_
        refine XD.take (i := 20) (l' := (lb 28 2064383)) (oA B5 [1, 1, 1, 1, 1, 1, 0] 20) (.v (.int .u8 (band .u8 (IntKind.u8.wrap (255 - s6)) g))) QOk.ctxG (by kernel_rfl) (by kernel_rfl) (by kernel_rfl) (by kernel_rfl) (by kernel_rfl) ?_
        refine XD.take (i := 21) (l' := (lb 28 4161535)) (oA B5 [1, 1, 1, 1, 1, 1, 0] 21) (.v (.bool ((band .u8 (IntKind.u8.wrap (255 - s6)) g) == 0))) QOk.ctxG (by kernel_rfl) (by kernel_rfl) (by kernel_rfl) (by kernel_rfl) (by kernel_rfl) ?_
        refine XD.norm [4, 6, 38, 39, 40, 47] [4] ⟨53, [(4, .own 4 0), (6, .v (.bool false)), (38, .v (.bool true)), (39, .v (.agg #[.int .u16 s0, .int .u16 s1, .int .u32 s2, .int .u32 s3, .int .u8 s4, .int .u8 s5, .int .u8 s6, .int .u16 s7, .int .u16 s8, .int .u16 s9])), (40, .v (.int .u8 g)), (47, .v (.bool ((band .u8 (IntKind.u8.wrap (255 - s6)) g) == 0)))], [(4, ⟨31, [.v (.int .u16 s0), .v (.int .u16 s1), .v (.int .u32 s2), .v (.int .u32 s3), .v (.int .u8 s4), .v (.int .u8 s5), .v (.int .u8 s6), .v (.int .u16 s7), .v (.int .u16 s8), .v (.int .u16 s9)]⟩)]⟩ (by kernel_rfl) ⟨⟨fun _ h => (by cases h; rfl), rfl⟩, trivial⟩ ?_
        refine XD.one (i := 15) (l' := (lb 28 4194303)) (oA B5 [1, 1, 1, 1, 1, 1, 0] 15) (by kernel_rfl) (by kernel_rfl) (by kernel_rfl) ?_
        refine X.callG (f := 37) (l := [.v (.agg #[.int .u16 s0, .int .u16 s1, .int .u32 s2, .int .u32 s3, .int .u8 s4, .int .u8 s5, .int .u8 s6, .int .u16 s7, .int .u16 s8, .int .u16 s9]), .v (.int .u8 g)]) [.agg #[.int .u16 s0, .int .u16 s1, .int .u32 s2, .int .u32 s3, .int .u8 s4, .int .u8 s5, .int .u8 s6, .int .u16 s7, .int .u16 s8, .int .u16 s9], .int .u8 g] 0 (by kernel_rfl) (by kernel_rfl) (by kernel_rfl) (Has_ok s0 s1 s2 s3 s4 s5 s6 s7 s8 s9 g _) ?_
        rintro v26 G26 rows26 hG26 ⟨rfl, rfl⟩
        refine X.back ⟨⟨⟨fun _ h => (by cases h; rfl), rfl⟩, trivial⟩, (hG25.trans hG26).le, rfl, ?_⟩
        refine XD.take (i := 22) (l' := (lb 28 8388607)) (oA B5 [1, 1, 1, 1, 1, 1, 0] 22) (.v (.bool ((band .u8 s6 g == g) == ((band .u8 (IntKind.u8.wrap (255 - s6)) g) == 0)))) QOk.ctxG (by kernel_rfl) (by kernel_rfl) (by kernel_rfl) (by kernel_rfl) (by kernel_rfl) ?_
        refine XD.take (i := 23) (l' := (lb 28 16777215)) (oA B5 [1, 1, 1, 1, 1, 1, 0] 23) (.v (.bool ((band .u8 s6 g == g) == ((band .u8 (IntKind.u8.wrap (255 - s6)) g) == 0)))) QOk.ctxG (by kernel_rfl) (by kernel_rfl) (by kernel_rfl) (by kernel_rfl) (by kernel_rfl) ?_
        refine XD.take (i := 24) (l' := (lb 28 33554431)) (oA B5 [1, 1, 1, 1, 1, 1, 0] 24) (.v (.bool ((band .u8 s6 g == g) == ((band .u8 (IntKind.u8.wrap (255 - s6)) g) == 0)))) QOk.ctxG (by kernel_rfl) (by kernel_rfl) (by kernel_rfl) (by kernel_rfl) (by kernel_rfl) ?_
        refine XD.isTrue 50 rfl (hasBits s6 g h6.1 h6.2 hg.1 hg.2) ?_
        refine XD.norm [4, 6, 50] [4] ⟨53, [(4, .own 4 0), (6, .v (.bool false)), (50, .v (.bool true))], [(4, ⟨31, [.v (.int .u16 s0), .v (.int .u16 s1), .v (.int .u32 s2), .v (.int .u32 s3), .v (.int .u8 s4), .v (.int .u8 s5), .v (.int .u8 s6), .v (.int .u16 s7), .v (.int .u16 s8), .v (.int .u16 s9)]⟩)]⟩ (by kernel_rfl) ⟨⟨fun _ h => (by cases h; rfl), rfl⟩, trivial⟩ ?_
        refine XD.one (i := 25) (l' := (lb 28 67108863)) (oA B5 [1, 1, 1, 1, 1, 1, 0] 25) (by kernel_rfl) (by kernel_rfl) (by kernel_rfl) ?_
        refine X.callG (f := 34) (l := []) [] 0 (by kernel_rfl) (by kernel_rfl) (by kernel_rfl) (works11_ok _) ?_
        rintro v27 G27 rows27 hG27 ⟨rfl, rfl⟩
        refine X.back ⟨⟨⟨fun _ h => (by cases h; rfl), rfl⟩, trivial⟩, ((hG25.trans hG26).trans hG27).le, rfl, ?_⟩
        refine XD.take (i := 26) (l' := (lb 28 134217727)) (oA B5 [1, 1, 1, 1, 1, 1, 0] 26) (.v (.bool true)) QOk.ctxG (by kernel_rfl) (by kernel_rfl) (by kernel_rfl) (by kernel_rfl) (by kernel_rfl) ?_
        refine XD.take (i := 27) (l' := (lb 28 268435455)) (oA B5 [1, 1, 1, 1, 1, 1, 0] 27) (.v (.bool true)) QOk.ctxG (by kernel_rfl) (by kernel_rfl) (by kernel_rfl) (by kernel_rfl) (by kernel_rfl) ?_
        refine XD.done (by kernel_rfl) ?_
        refine X.run 2 [6] [] (.ex .ret) [] ⟨53, [(6, .v (.bool true))], []⟩ (by kernel_rfl) ?_
        refine doneG (.inl rfl) [.bool true] [] (by kernel_rfl) rfl rfl ((((hG1.trans hG25).trans hG26).trans hG27)) ?_
        -- end 5 (FTT)
        exact ⟨rfl, rfl⟩
      · -- slot 23: band .u8 f 1 != 0 is False
        replace h23 : band .u8 f 1 = 0 := by simpa using h23
        refine X.run 4 [0, 2, 4, 6, 7, 8, 9, 10] [4] (.code (cA B5 [1, 1, 1, 1, 1, 1, 0])) [.seq (cA B5 [1, 1, 1, 1, 1, 1, 1])] ⟨53, [(0, .v (.int .u8 f)), (2, .v (.int .u8 g)), (4, .own 4 0), (6, .v (.bool false)), (7, .v (.bool (band .u8 f 4 != 0))), (8, .v (.bool (band .u8 f 2 != 0))), (9, .v (.bool (band .u8 f 1 != 0))), (10, .v (.int .u8 2))], [(4, ⟨31, [.v (.int .u16 s0), .v (.int .u16 s1), .v (.int .u32 s2), .v (.int .u32 s3), .v (.int .u8 s4), .v (.int .u8 s5), .v (.int .u8 s6), .v (.int .u16 s7), .v (.int .u16 s8), .v (.int .u16 s9)]⟩)]⟩ (by kernel_rfl) ?_
        refine XD.open (id := 9) (arr := aA B5 [1, 1, 1, 1, 1, 1, 0]) 28 [⟨some 4, 4, 31, [.v (.int .u16 s0), .v (.int .u16 s1), .v (.int .u32 s2), .v (.int .u32 s3), .v (.int .u8 s4), .v (.int .u8 s5), .v (.int .u8 s6), .v (.int .u16 s7), .v (.int .u16 s8), .v (.int .u16 s9)]⟩] [] [] (by kernel_rfl) (by kernel_rfl) (by kernel_rfl) (by kernel_rfl) (by kernel_rfl) ⟨⟨fun _ h => (by cases h; rfl), rfl⟩, trivial⟩ (by intro p hp hn; simp only [List.mem_cons, List.not_mem_nil, or_false] at hp; rcases hp with rfl <;> first | (cases hn; done) | exact absurd _ (Nat.le_of_ble_eq_true rfl)) rfl (fun ρ0 => ?_)
        refine XD.take (i := 0) (l' := (lb 28 1)) (oA B5 [1, 1, 1, 1, 1, 1, 0] 0) (.v (.int .u8 2)) QOk.ctxG (by kernel_rfl) (by kernel_rfl) (by kernel_rfl) (by kernel_rfl) (by kernel_rfl) ?_
        refine XD.take (i := 1) (l' := (lb 28 3)) (oA B5 [1, 1, 1, 1, 1, 1, 0] 1) (.v (.int .u8 f)) QOk.ctxG (by kernel_rfl) (by kernel_rfl) (by kernel_rfl) (by kernel_rfl) (by kernel_rfl) ?_
        refine XD.take (i := 2) (l' := (lb 28 7)) (oA B5 [1, 1, 1, 1, 1, 1, 0] 2) (.v (.int .u8 (Int.tmod f 8))) QOk.ctxG (by kernel_rfl) (by kernel_rfl) (by kernel_rfl) (by kernel_rfl) (by kernel_rfl) ?_
        refine XD.take (i := 3) (l' := (lb 28 15)) (oA B5 [1, 1, 1, 1, 1, 1, 0] 3) (.v (.bool (2 == (Int.tmod f 8)))) QOk.ctxG (by kernel_rfl) (by kernel_rfl) (by kernel_rfl) (by kernel_rfl) (by kernel_rfl) ?_
        refine XD.take (i := 4) (l' := (lb 28 31)) (oA B5 [1, 1, 1, 1, 1, 1, 0] 4) (.v (.bool (2 == (Int.tmod f 8)))) QOk.ctxG (by kernel_rfl) (by kernel_rfl) (by kernel_rfl) (by kernel_rfl) (by kernel_rfl) ?_
        refine XD.isTrue 30 rfl (by rw [bits3 f hf.1 hf.2]; simp [*]) ?_
        refine XD.take (i := 5) (l' := (lb 28 63)) (oA B5 [1, 1, 1, 1, 1, 1, 0] 5) (.v (.bool (band .u8 f 4 != 0))) QOk.ctxG (by kernel_rfl) (by kernel_rfl) (by kernel_rfl) (by kernel_rfl) (by kernel_rfl) ?_
        refine XD.take (i := 6) (l' := (lb 28 127)) (oA B5 [1, 1, 1, 1, 1, 1, 0] 6) (.v (.bool (band .u8 f 2 != 0))) QOk.ctxG (by kernel_rfl) (by kernel_rfl) (by kernel_rfl) (by kernel_rfl) (by kernel_rfl) ?_
        refine XD.take (i := 7) (l' := (lb 28 255)) (oA B5 [1, 1, 1, 1, 1, 1, 0] 7) (.v (.bool (band .u8 f 1 != 0))) QOk.ctxG (by kernel_rfl) (by kernel_rfl) (by kernel_rfl) (by kernel_rfl) (by kernel_rfl) ?_
        refine XD.take (i := 9) (l' := (lb 28 767)) (oA B5 [1, 1, 1, 1, 1, 1, 0] 9) (.v (.int .u8 2)) QOk.ctxG (by kernel_rfl) (by kernel_rfl) (by kernel_rfl) (by kernel_rfl) (by kernel_rfl) ?_
        refine XD.norm [2, 4, 6, 30, 31, 32, 33, 35] [4] ⟨53, [(2, .v (.int .u8 g)), (4, .own 4 0), (6, .v (.bool false)), (30, .v (.bool true)), (31, .v (.bool (band .u8 f 4 != 0))), (32, .v (.bool (band .u8 f 2 != 0))), (33, .v (.bool (band .u8 f 1 != 0))), (35, .v (.int .u8 2))], [(4, ⟨31, [.v (.int .u16 s0), .v (.int .u16 s1), .v (.int .u32 s2), .v (.int .u32 s3), .v (.int .u8 s4), .v (.int .u8 s5), .v (.int .u8 s6), .v (.int .u16 s7), .v (.int .u16 s8), .v (.int .u16 s9)]⟩)]⟩ (by kernel_rfl) ⟨⟨fun _ h => (by cases h; rfl), rfl⟩, trivial⟩ ?_
        refine XD.one (i := 8) (l' := (lb 28 1023)) (oA B5 [1, 1, 1, 1, 1, 1, 0] 8) (by kernel_rfl) (by kernel_rfl) (by kernel_rfl) ?_
        refine X.callG (f := 36) (l := [.v (.bool (band .u8 f 4 != 0)), .v (.bool (band .u8 f 2 != 0)), .v (.bool (band .u8 f 1 != 0))]) [.bool (band .u8 f 4 != 0), .bool (band .u8 f 2 != 0), .bool (band .u8 f 1 != 0)] 0 (by kernel_rfl) (by kernel_rfl) (by kernel_rfl) (Ace_ok (band .u8 f 4 != 0) (band .u8 f 2 != 0) (band .u8 f 1 != 0) _) ?_
        rintro v29 G29 rows29 hG29 ⟨rfl, rfl⟩
        refine X.back ⟨⟨⟨fun _ h => (by cases h; rfl), rfl⟩, trivial⟩, hG29.le, rfl, ?_⟩
        refine XD.take (i := 10) (l' := (lb 28 2047)) (oA B5 [1, 1, 1, 1, 1, 1, 0] 10) (.v (.bool ((aceN (band .u8 f 4 != 0) (band .u8 f 2 != 0) (band .u8 f 1 != 0)) == 2))) QOk.ctxG (by kernel_rfl) (by kernel_rfl) (by kernel_rfl) (by kernel_rfl) (by kernel_rfl) ?_
        refine XD.take (i := 11) (l' := (lb 28 4095)) (oA B5 [1, 1, 1, 1, 1, 1, 0] 11) (.v (.bool ((aceN (band .u8 f 4 != 0) (band .u8 f 2 != 0) (band .u8 f 1 != 0)) == 2))) QOk.ctxG (by kernel_rfl) (by kernel_rfl) (by kernel_rfl) (by kernel_rfl) (by kernel_rfl) ?_
        refine XD.take (i := 12) (l' := (lb 28 8191)) (oA B5 [1, 1, 1, 1, 1, 1, 0] 12) (.v (.bool ((aceN (band .u8 f 4 != 0) (band .u8 f 2 != 0) (band .u8 f 1 != 0)) == 2))) QOk.ctxG (by kernel_rfl) (by kernel_rfl) (by kernel_rfl) (by kernel_rfl) (by kernel_rfl) ?_
        refine XD.isTrue 38 rfl (by simp [aceN, *]) ?_
        refine XD.take (i := 13) (l' := (lb 28 16383)) (oA B5 [1, 1, 1, 1, 1, 1, 0] 13) (.v (.agg #[.int .u16 s0, .int .u16 s1, .int .u32 s2, .int .u32 s3, .int .u8 s4, .int .u8 s5, .int .u8 s6, .int .u16 s7, .int .u16 s8, .int .u16 s9])) QOk.ctxG (by kernel_rfl) (by kernel_rfl) (by kernel_rfl) (by kernel_rfl) (by kernel_rfl) ?_
        refine XD.take (i := 14) (l' := (lb 28 32767)) (oA B5 [1, 1, 1, 1, 1, 1, 0] 14) (.v (.int .u8 g)) QOk.ctxG (by kernel_rfl) (by kernel_rfl) (by kernel_rfl) (by kernel_rfl) (by kernel_rfl) ?_
        refine XD.take (i := 16) (l' := (lb 28 98303)) (oA B5 [1, 1, 1, 1, 1, 1, 0] 16) (.own 4 6) QOk.ctxG (by kernel_rfl) (by kernel_rfl) (by kernel_rfl) (by kernel_rfl) (by kernel_rfl) ?_
        refine XD.take (i := 17) (l' := (lb 28 229375)) (oA B5 [1, 1, 1, 1, 1, 1, 0] 17) (.v (.int .u8 s6)) QOk.ctxG (by kernel_rfl) (by kernel_rfl) (by kernel_rfl) (by kernel_rfl) (by kernel_rfl) ?_
        refine XD.take (i := 18) (l' := (lb 28 491519)) (oA B5 [1, 1, 1, 1, 1, 1, 0] 18) (.v (.int .u8 (IntKind.u8.wrap (255 - s6)))) QOk.ctxG (by kernel_rfl) (by kernel_rfl) (by kernel_rfl) (by kernel_rfl) (by kernel_rfl) ?_
        refine XD.take (i := 19) (l' := (lb 28 1015807)) (oA B5 [1, 1, 1, 1, 1, 1, 0] 19) (.v (.int .u8 g)) QOk.ctxG (by kernel_rfl) (by kernel_rfl) (by kernel_rfl) (by kernel_rfl) (by kernel_rfl) ?_
        refine XD.take (i := 20) (l' := (lb 28 2064383)) (oA B5 [1, 1, 1, 1, 1, 1, 0] 20) (.v (.int .u8 (band .u8 (IntKind.u8.wrap (255 - s6)) g))) QOk.ctxG (by kernel_rfl) (by kernel_rfl) (by kernel_rfl) (by kernel_rfl) (by kernel_rfl) ?_
        refine XD.take (i := 21) (l' := (lb 28 4161535)) (oA B5 [1, 1, 1, 1, 1, 1, 0] 21) (.v (.bool ((band .u8 (IntKind.u8.wrap (255 - s6)) g) == 0))) QOk.ctxG (by kernel_rfl) (by kernel_rfl) (by kernel_rfl) (by kernel_rfl) (by kernel_rfl) ?_
        refine XD.norm [4, 6, 38, 39, 40, 47] [4] ⟨53, [(4, .own 4 0), (6, .v (.bool false)), (38, .v (.bool true)), (39, .v (.agg #[.int .u16 s0, .int .u16 s1, .int .u32 s2, .int .u32 s3, .int .u8 s4, .int .u8 s5, .int .u8 s6, .int .u16 s7, .int .u16 s8, .int .u16 s9])), (40, .v (.int .u8 g)), (47, .v (.bool ((band .u8 (IntKind.u8.wrap (255 - s6)) g) == 0)))], [(4, ⟨31, [.v (.int .u16 s0), .v (.int .u16 s1), .v (.int .u32 s2), .v (.int .u32 s3), .v (.int .u8 s4), .v (.int .u8 s5), .v (.int .u8 s6), .v (.int .u16 s7), .v (.int .u16 s8), .v (.int .u16 s9)]⟩)]⟩ (by kernel_rfl) ⟨⟨fun _ h => (by cases h; rfl), rfl⟩, trivial⟩ ?_
        refine XD.one (i := 15) (l' := (lb 28 4194303)) (oA B5 [1, 1, 1, 1, 1, 1, 0] 15) (by kernel_rfl) (by kernel_rfl) (by kernel_rfl) ?_
        refine X.callG (f := 37) (l := [.v (.agg #[.int .u16 s0, .int .u16 s1, .int .u32 s2, .int .u32 s3, .int .u8 s4, .int .u8 s5, .int .u8 s6, .int .u16 s7, .int .u16 s8, .int .u16 s9]), .v (.int .u8 g)]) [.agg #[.int .u16 s0, .int .u16 s1, .int .u32 s2, .int .u32 s3, .int .u8 s4, .int .u8 s5, .int .u8 s6, .int .u16 s7, .int .u16 s8, .int .u16 s9], .int .u8 g] 0 (by kernel_rfl) (by kernel_rfl) (by kernel_rfl) (Has_ok s0 s1 s2 s3 s4 s5 s6 s7 s8 s9 g _) ?_
        rintro v30 G30 rows30 hG30 ⟨rfl, rfl⟩
        refine X.back ⟨⟨⟨fun _ h => (by cases h; rfl), rfl⟩, trivial⟩, (hG29.trans hG30).le, rfl, ?_⟩
        refine XD.take (i := 22) (l' := (lb 28 8388607)) (oA B5 [1, 1, 1, 1, 1, 1, 0] 22) (.v (.bool ((band .u8 s6 g == g) == ((band .u8 (IntKind.u8.wrap (255 - s6)) g) == 0)))) QOk.ctxG (by kernel_rfl) (by kernel_rfl) (by kernel_rfl) (by kernel_rfl) (by kernel_rfl) ?_
        refine XD.take (i := 23) (l' := (lb 28 16777215)) (oA B5 [1, 1, 1, 1, 1, 1, 0] 23) (.v (.bool ((band .u8 s6 g == g) == ((band .u8 (IntKind.u8.wrap (255 - s6)) g) == 0)))) QOk.ctxG (by kernel_rfl) (by kernel_rfl) (by kernel_rfl) (by kernel_rfl) (by kernel_rfl) ?_
        refine XD.take (i := 24) (l' := (lb 28 33554431)) (oA B5 [1, 1, 1, 1, 1, 1, 0] 24) (.v (.bool ((band .u8 s6 g == g) == ((band .u8 (IntKind.u8.wrap (255 - s6)) g) == 0)))) QOk.ctxG (by kernel_rfl) (by kernel_rfl) (by kernel_rfl) (by kernel_rfl) (by kernel_rfl) ?_
        refine XD.isTrue 50 rfl (hasBits s6 g h6.1 h6.2 hg.1 hg.2) ?_
        refine XD.norm [4, 6, 50] [4] ⟨53, [(4, .own 4 0), (6, .v (.bool false)), (50, .v (.bool true))], [(4, ⟨31, [.v (.int .u16 s0), .v (.int .u16 s1), .v (.int .u32 s2), .v (.int .u32 s3), .v (.int .u8 s4), .v (.int .u8 s5), .v (.int .u8 s6), .v (.int .u16 s7), .v (.int .u16 s8), .v (.int .u16 s9)]⟩)]⟩ (by kernel_rfl) ⟨⟨fun _ h => (by cases h; rfl), rfl⟩, trivial⟩ ?_
        refine XD.one (i := 25) (l' := (lb 28 67108863)) (oA B5 [1, 1, 1, 1, 1, 1, 0] 25) (by kernel_rfl) (by kernel_rfl) (by kernel_rfl) ?_
        refine X.callG (f := 34) (l := []) [] 0 (by kernel_rfl) (by kernel_rfl) (by kernel_rfl) (works11_ok _) ?_
        rintro v31 G31 rows31 hG31 ⟨rfl, rfl⟩
        refine X.back ⟨⟨⟨fun _ h => (by cases h; rfl), rfl⟩, trivial⟩, ((hG29.trans hG30).trans hG31).le, rfl, ?_⟩
        refine XD.take (i := 26) (l' := (lb 28 134217727)) (oA B5 [1, 1, 1, 1, 1, 1, 0] 26) (.v (.bool true)) QOk.ctxG (by kernel_rfl) (by kernel_rfl) (by kernel_rfl) (by kernel_rfl) (by kernel_rfl) ?_
        refine XD.take (i := 27) (l' := (lb 28 268435455)) (oA B5 [1, 1, 1, 1, 1, 1, 0] 27) (.v (.bool true)) QOk.ctxG (by kernel_rfl) (by kernel_rfl) (by kernel_rfl) (by kernel_rfl) (by kernel_rfl) ?_
        refine XD.done (by kernel_rfl) ?_
        refine X.run 2 [6] [] (.ex .ret) [] ⟨53, [(6, .v (.bool true))], []⟩ (by kernel_rfl) ?_
        refine doneG (.inl rfl) [.bool true] [] (by kernel_rfl) rfl rfl ((((hG1.trans hG29).trans hG30).trans hG31)) ?_
        -- end 6 (FTF)
        exact ⟨rfl, rfl⟩
    · -- slot 20: band .u8 f 2 != 0 is False
      replace h22 : band .u8 f 2 = 0 := by simpa using h22
      refine X.run 9 [0, 2, 4, 6, 7, 8, 9, 10, 23] [4] (.code (cA B5 [1, 1, 1, 1, 1, 0, 1])) [.seq (cA B5 [1, 1, 1, 1, 1, 1])] ⟨53, [(0, .v (.int .u8 f)), (2, .v (.int .u8 g)), (4, .own 4 0), (6, .v (.bool false)), (7, .v (.bool (band .u8 f 4 != 0))), (8, .v (.bool (band .u8 f 2 != 0))), (9, .v (.bool (band .u8 f 1 != 0))), (10, .v (.int .u8 0)), (23, .v (.bool (band .u8 f 1 != 0)))], [(4, ⟨31, [.v (.int .u16 s0), .v (.int .u16 s1), .v (.int .u32 s2), .v (.int .u32 s3), .v (.int .u8 s4), .v (.int .u8 s5), .v (.int .u8 s6), .v (.int .u16 s7), .v (.int .u16 s8), .v (.int .u16 s9)]⟩)]⟩ (by kernel_rfl) ?_
      refine X.split 23 rfl (fun h32 => ?_) (fun h32 => ?_)
      · -- slot 23: band .u8 f 1 != 0 is True
        replace h32 : band .u8 f 1 ≠ 0 := by simpa using h32
        refine X.run 8 [0, 2, 4, 6, 7, 8, 9, 10] [4] (.code (cA B5 [1, 1, 1, 1, 1, 1, 0])) [.seq (cA B5 [1, 1, 1, 1, 1, 1, 1])] ⟨53, [(0, .v (.int .u8 f)), (2, .v (.int .u8 g)), (4, .own 4 0), (6, .v (.bool false)), (7, .v (.bool (band .u8 f 4 != 0))), (8, .v (.bool (band .u8 f 2 != 0))), (9, .v (.bool (band .u8 f 1 != 0))), (10, .v (.int .u8 1))], [(4, ⟨31, [.v (.int .u16 s0), .v (.int .u16 s1), .v (.int .u32 s2), .v (.int .u32 s3), .v (.int .u8 s4), .v (.int .u8 s5), .v (.int .u8 s6), .v (.int .u16 s7), .v (.int .u16 s8), .v (.int .u16 s9)]⟩)]⟩ (by kernel_rfl) ?_
        refine XD.open (id := 9) (arr := aA B5 [1, 1, 1, 1, 1, 1, 0]) 28 [⟨some 4, 4, 31, [.v (.int .u16 s0), .v (.int .u16 s1), .v (.int .u32 s2), .v (.int .u32 s3), .v (.int .u8 s4), .v (.int .u8 s5), .v (.int .u8 s6), .v (.int .u16 s7), .v (.int .u16 s8), .v (.int .u16 s9)]⟩] [] [] (by kernel_rfl) (by kernel_rfl) (by kernel_rfl) (by kernel_rfl) (by kernel_rfl) ⟨⟨fun _ h => (by cases h; rfl), rfl⟩, trivial⟩ (by intro p hp hn; simp only [List.mem_cons, List.not_mem_nil, or_false] at hp; rcases hp with rfl <;> first | (cases hn; done) | exact absurd _ (Nat.le_of_ble_eq_true rfl)) rfl (fun ρ0 => ?_)
        refine XD.take (i := 0) (l' := (lb 28 1)) (oA B5 [1, 1, 1, 1, 1, 1, 0] 0) (.v (.int .u8 1)) QOk.ctxG (by kernel_rfl) (by kernel_rfl) (by kernel_rfl) (by kernel_rfl) (by kernel_rfl) ?_
        refine XD.take (i := 1) (l' := (lb 28 3)) (oA B5 [1, 1, 1, 1, 1, 1, 0] 1) (.v (.int .u8 f)) QOk.ctxG (by kernel_rfl) (by kernel_rfl) (by kernel_rfl) (by kernel_rfl) (by kernel_rfl) ?_
        refine XD.take (i := 2) (l' := (lb 28 7)) (oA B5 [1, 1, 1, 1, 1, 1, 0] 2) (.v (.int .u8 (Int.tmod f 8))) QOk.ctxG (by kernel_rfl) (by kernel_rfl) (by kernel_rfl) (by kernel_rfl) (by kernel_rfl) ?_
        refine XD.take (i := 3) (l' := (lb 28 15)) (oA B5 [1, 1, 1, 1, 1, 1, 0] 3) (.v (.bool (1 == (Int.tmod f 8)))) QOk.ctxG (by kernel_rfl) (by kernel_rfl) (by kernel_rfl) (by kernel_rfl) (by kernel_rfl) ?_
        refine XD.take (i := 4) (l' := (lb 28 31)) (oA B5 [1, 1, 1, 1, 1, 1, 0] 4) (.v (.bool (1 == (Int.tmod f 8)))) QOk.ctxG (by kernel_rfl) (by kernel_rfl) (by kernel_rfl) (by kernel_rfl) (by kernel_rfl) ?_
        refine XD.isTrue 30 rfl (by rw [bits3 f hf.1 hf.2]; simp [*]) ?_
        refine XD.take (i := 5) (l' := (lb 28 63)) (oA B5 [1, 1, 1, 1, 1, 1, 0] 5) (.v (.bool (band .u8 f 4 != 0))) QOk.ctxG (by kernel_rfl) (by kernel_rfl) (by kernel_rfl) (by kernel_rfl) (by kernel_rfl) ?_
        refine XD.take (i := 6) (l' := (lb 28 127)) (oA B5 [1, 1, 1, 1, 1, 1, 0] 6) (.v (.bool (band .u8 f 2 != 0))) QOk.ctxG (by kernel_rfl) (by kernel_rfl) (by kernel_rfl) (by kernel_rfl) (by kernel_rfl) ?_
        refine XD.take (i := 7) (l' := (lb 28 255)) (oA B5 [1, 1, 1, 1, 1, 1, 0] 7) (.v (.bool (band .u8 f 1 != 0))) QOk.ctxG (by kernel_rfl) (by kernel_rfl) (by kernel_rfl) (by kernel_rfl) (by kernel_rfl) ?_
        refine XD.take (i := 9) (l' := (lb 28 767)) (oA B5 [1, 1, 1, 1, 1, 1, 0] 9) (.v (.int .u8 1)) QOk.ctxG (by kernel_rfl) (by kernel_rfl) (by kernel_rfl) (by kernel_rfl) (by kernel_rfl) ?_
        refine XD.norm [2, 4, 6, 30, 31, 32, 33, 35] [4] ⟨53, [(2, .v (.int .u8 g)), (4, .own 4 0), (6, .v (.bool false)), (30, .v (.bool true)), (31, .v (.bool (band .u8 f 4 != 0))), (32, .v (.bool (band .u8 f 2 != 0))), (33, .v (.bool (band .u8 f 1 != 0))), (35, .v (.int .u8 1))], [(4, ⟨31, [.v (.int .u16 s0), .v (.int .u16 s1), .v (.int .u32 s2), .v (.int .u32 s3), .v (.int .u8 s4), .v (.int .u8 s5), .v (.int .u8 s6), .v (.int .u16 s7), .v (.int .u16 s8), .v (.int .u16 s9)]⟩)]⟩ (by kernel_rfl) ⟨⟨fun _ h => (by cases h; rfl), rfl⟩, trivial⟩ ?_
        refine XD.one (i := 8) (l' := (lb 28 1023)) (oA B5 [1, 1, 1, 1, 1, 1, 0] 8) (by kernel_rfl) (by kernel_rfl) (by kernel_rfl) ?_
        refine X.callG (f := 36) (l := [.v (.bool (band .u8 f 4 != 0)), .v (.bool (band .u8 f 2 != 0)), .v (.bool (band .u8 f 1 != 0))]) [.bool (band .u8 f 4 != 0), .bool (band .u8 f 2 != 0), .bool (band .u8 f 1 != 0)] 0 (by kernel_rfl) (by kernel_rfl) (by kernel_rfl) (Ace_ok (band .u8 f 4 != 0) (band .u8 f 2 != 0) (band .u8 f 1 != 0) _) ?_
        rintro v34 G34 rows34 hG34 ⟨rfl, rfl⟩
        refine X.back ⟨⟨⟨fun _ h => (by cases h; rfl), rfl⟩, trivial⟩, hG34.le, rfl, ?_⟩
        refine XD.take (i := 10) (l' := (lb 28 2047)) (oA B5 [1, 1, 1, 1, 1, 1, 0] 10) (.v (.bool ((aceN (band .u8 f 4 != 0) (band .u8 f 2 != 0) (band .u8 f 1 != 0)) == 1))) QOk.ctxG (by kernel_rfl) (by kernel_rfl) (by kernel_rfl) (by kernel_rfl) (by kernel_rfl) ?_
        refine XD.take (i := 11) (l' := (lb 28 4095)) (oA B5 [1, 1, 1, 1, 1, 1, 0] 11) (.v (.bool ((aceN (band .u8 f 4 != 0) (band .u8 f 2 != 0) (band .u8 f 1 != 0)) == 1))) QOk.ctxG (by kernel_rfl) (by kernel_rfl) (by kernel_rfl) (by kernel_rfl) (by kernel_rfl) ?_
        refine XD.take (i := 12) (l' := (lb 28 8191)) (oA B5 [1, 1, 1, 1, 1, 1, 0] 12) (.v (.bool ((aceN (band .u8 f 4 != 0) (band .u8 f 2 != 0) (band .u8 f 1 != 0)) == 1))) QOk.ctxG (by kernel_rfl) (by kernel_rfl) (by kernel_rfl) (by kernel_rfl) (by kernel_rfl) ?_
        refine XD.isTrue 38 rfl (by simp [aceN, *]) ?_
        refine XD.take (i := 13) (l' := (lb 28 16383)) (oA B5 [1, 1, 1, 1, 1, 1, 0] 13) (.v (.agg #[.int .u16 s0, .int .u16 s1, .int .u32 s2, .int .u32 s3, .int .u8 s4, .int .u8 s5, .int .u8 s6, .int .u16 s7, .int .u16 s8, .int .u16 s9])) QOk.ctxG (by kernel_rfl) (by kernel_rfl) (by kernel_rfl) (by kernel_rfl) (by kernel_rfl) ?_
        refine XD.take (i := 14) (l' := (lb 28 32767)) (oA B5 [1, 1, 1, 1, 1, 1, 0] 14) (.v (.int .u8 g)) QOk.ctxG (by kernel_rfl) (by kernel_rfl) (by kernel_rfl) (by kernel_rfl) (by kernel_rfl) ?_
        refine XD.take (i := 16) (l' := (lb 28 98303)) (oA B5 [1, 1, 1, 1, 1, 1, 0] 16) (.own 4 6) QOk.ctxG (by kernel_rfl) (by kernel_rfl) (by kernel_rfl) (by kernel_rfl) (by kernel_rfl) ?_
        refine XD.take (i := 17) (l' := (lb 28 229375)) (oA B5 [1, 1, 1, 1, 1, 1, 0] 17) (.v (.int .u8 s6)) QOk.ctxG (by kernel_rfl) (by kernel_rfl) (by kernel_rfl) (by kernel_rfl) (by kernel_rfl) ?_
        refine XD.take (i := 18) (l' := (lb 28 491519)) (oA B5 [1, 1, 1, 1, 1, 1, 0] 18) (.v (.int .u8 (IntKind.u8.wrap (255 - s6)))) QOk.ctxG (by kernel_rfl) (by kernel_rfl) (by kernel_rfl) (by kernel_rfl) (by kernel_rfl) ?_
        refine XD.take (i := 19) (l' := (lb 28 1015807)) (oA B5 [1, 1, 1, 1, 1, 1, 0] 19) (.v (.int .u8 g)) QOk.ctxG (by kernel_rfl) (by kernel_rfl) (by kernel_rfl) (by kernel_rfl) (by kernel_rfl) ?_
        refine XD.take (i := 20) (l' := (lb 28 2064383)) (oA B5 [1, 1, 1, 1, 1, 1, 0] 20) (.v (.int .u8 (band .u8 (IntKind.u8.wrap (255 - s6)) g))) QOk.ctxG (by kernel_rfl) (by kernel_rfl) (by kernel_rfl) (by kernel_rfl) (by kernel_rfl) ?_
        refine XD.take (i := 21) (l' := (lb 28 4161535)) (oA B5 [1, 1, 1, 1, 1, 1, 0] 21) (.v (.bool ((band .u8 (IntKind.u8.wrap (255 - s6)) g) == 0))) QOk.ctxG (by kernel_rfl) (by kernel_rfl) (by kernel_rfl) (by kernel_rfl) (by kernel_rfl) ?_
        refine XD.norm [4, 6, 38, 39, 40, 47] [4] ⟨53, [(4, .own 4 0), (6, .v (.bool false)), (38, .v (.bool true)), (39, .v (.agg #[.int .u16 s0, .int .u16 s1, .int .u32 s2, .int .u32 s3, .int .u8 s4, .int .u8 s5, .int .u8 s6, .int .u16 s7, .int .u16 s8, .int .u16 s9])), (40, .v (.int .u8 g)), (47, .v (.bool ((band .u8 (IntKind.u8.wrap (255 - s6)) g) == 0)))], [(4, ⟨31, [.v (.int .u16 s0), .v (.int .u16 s1), .v (.int .u32 s2), .v (.int .u32 s3), .v (.int .u8 s4), .v (.int .u8 s5), .v (.int .u8 s6), .v (.int .u16 s7), .v (.int .u16 s8), .v (.int .u16 s9)]⟩)]⟩ (by kernel_rfl) ⟨⟨fun _ h => (by cases h; rfl), rfl⟩, trivial⟩ ?_
        refine XD.one (i := 15) (l' := (lb 28 4194303)) (oA B5 [1, 1, 1, 1, 1, 1, 0] 15) (by kernel_rfl) (by kernel_rfl) (by kernel_rfl) ?_
        refine X.callG (f := 37) (l := [.v (.agg #[.int .u16 s0, .int .u16 s1, .int .u32 s2, .int .u32 s3, .int .u8 s4, .int .u8 s5, .int .u8 s6, .int .u16 s7, .int .u16 s8, .int .u16 s9]), .v (.int .u8 g)]) [.agg #[.int .u16 s0, .int .u16 s1, .int .u32 s2, .int .u32 s3, .int .u8 s4, .int .u8 s5, .int .u8 s6, .int .u16 s7, .int .u16 s8, .int .u16 s9], .int .u8 g] 0 (by kernel_rfl) (by kernel_rfl) (by kernel_rfl) (Has_ok s0 s1 s2 s3 s4 s5 s6 s7 s8 s9 g _) ?_
        rintro v35 G35 rows35 hG35 ⟨rfl, rfl⟩
        refine X.back ⟨⟨⟨fun _ h => (by cases h; rfl), rfl⟩, trivial⟩, (hG34.trans hG35).le, rfl, ?_⟩
        refine XD.take (i := 22) (l' := (lb 28 8388607)) (oA B5 [1, 1, 1, 1, 1, 1, 0] 22) (.v (.bool ((band .u8 s6 g == g) == ((band .u8 (IntKind.u8.wrap (255 - s6)) g) == 0)))) QOk.ctxG (by kernel_rfl) (by kernel_rfl) (by kernel_rfl) (by kernel_rfl) (by kernel_rfl) ?_
        refine XD.take (i := 23) (l' := (lb 28 16777215)) (oA B5 [1, 1, 1, 1, 1, 1, 0] 23) (.v (.bool ((band .u8 s6 g == g) == ((band .u8 (IntKind.u8.wrap (255 - s6)) g) == 0)))) QOk.ctxG (by kernel_rfl) (by kernel_rfl) (by kernel_rfl) (by kernel_rfl) (by kernel_rfl) ?_
        refine XD.take (i := 24) (l' := (lb 28 33554431)) (oA B5 [1, 1, 1, 1, 1, 1, 0] 24) (.v (.bool ((band .u8 s6 g == g) == ((band .u8 (IntKind.u8.wrap (255 - s6)) g) == 0)))) QOk.ctxG (by kernel_rfl) (by kernel_rfl) (by kernel_rfl) (by kernel_rfl) (by kernel_rfl) ?_
        refine XD.isTrue 50 rfl (hasBits s6 g h6.1 h6.2 hg.1 hg.2) ?_
        refine XD.norm [4, 6, 50] [4] ⟨53, [(4, .own 4 0), (6, .v (.bool false)), (50, .v (.bool true))], [(4, ⟨31, [.v (.int .u16 s0), .v (.int .u16 s1), .v (.int .u32 s2), .v (.int .u32 s3), .v (.int .u8 s4), .v (.int .u8 s5), .v (.int .u8 s6), .v (.int .u16 s7), .v (.int .u16 s8), .v (.int .u16 s9)]⟩)]⟩ (by kernel_rfl) ⟨⟨fun _ h => (by cases h; rfl), rfl⟩, trivial⟩ ?_
        refine XD.one (i := 25) (l' := (lb 28 67108863)) (oA B5 [1, 1, 1, 1, 1, 1, 0] 25) (by kernel_rfl) (by kernel_rfl) (by kernel_rfl) ?_
        refine X.callG (f := 34) (l := []) [] 0 (by kernel_rfl) (by kernel_rfl) (by kernel_rfl) (works11_ok _) ?_
        rintro v36 G36 rows36 hG36 ⟨rfl, rfl⟩
        refine X.back ⟨⟨⟨fun _ h => (by cases h; rfl), rfl⟩, trivial⟩, ((hG34.trans hG35).trans hG36).le, rfl, ?_⟩
        refine XD.take (i := 26) (l' := (lb 28 134217727)) (oA B5 [1, 1, 1, 1, 1, 1, 0] 26) (.v (.bool true)) QOk.ctxG (by kernel_rfl) (by kernel_rfl) (by kernel_rfl) (by kernel_rfl) (by kernel_rfl) ?_
        refine XD.take (i := 27) (l' := (lb 28 268435455)) (oA B5 [1, 1, 1, 1, 1, 1, 0] 27) (.v (.bool true)) QOk.ctxG (by kernel_rfl) (by kernel_rfl) (by kernel_rfl) (by kernel_rfl) (by kernel_rfl) ?_
        refine XD.done (by kernel_rfl) ?_
        refine X.run 2 [6] [] (.ex .ret) [] ⟨53, [(6, .v (.bool true))], []⟩ (by kernel_rfl) ?_
        refine doneG (.inl rfl) [.bool true] [] (by kernel_rfl) rfl rfl ((((hG1.trans hG34).trans hG35).trans hG36)) ?_
        -- end 7 (FFT)
        exact ⟨rfl, rfl⟩
      · -- slot 23: band .u8 f 1 != 0 is False
        replace h32 : band .u8 f 1 = 0 := by simpa using h32
        refine X.run 4 [0, 2, 4, 6, 7, 8, 9, 10] [4] (.code (cA B5 [1, 1, 1, 1, 1, 1, 0])) [.seq (cA B5 [1, 1, 1, 1, 1, 1, 1])] ⟨53, [(0, .v (.int .u8 f)), (2, .v (.int .u8 g)), (4, .own 4 0), (6, .v (.bool false)), (7, .v (.bool (band .u8 f 4 != 0))), (8, .v (.bool (band .u8 f 2 != 0))), (9, .v (.bool (band .u8 f 1 != 0))), (10, .v (.int .u8 0))], [(4, ⟨31, [.v (.int .u16 s0), .v (.int .u16 s1), .v (.int .u32 s2), .v (.int .u32 s3), .v (.int .u8 s4), .v (.int .u8 s5), .v (.int .u8 s6), .v (.int .u16 s7), .v (.int .u16 s8), .v (.int .u16 s9)]⟩)]⟩ (by kernel_rfl) ?_
        refine XD.open (id := 9) (arr := aA B5 [1, 1, 1, 1, 1, 1, 0]) 28 [⟨some 4, 4, 31, [.v (.int .u16 s0), .v (.int .u16 s1), .v (.int .u32 s2), .v (.int .u32 s3), .v (.int .u8 s4), .v (.int .u8 s5), .v (.int .u8 s6), .v (.int .u16 s7), .v (.int .u16 s8), .v (.int .u16 s9)]⟩] [] [] (by kernel_rfl) (by kernel_rfl) (by kernel_rfl) (by kernel_rfl) (by kernel_rfl) ⟨⟨fun _ h => (by cases h; rfl), rfl⟩, trivial⟩ (by intro p hp hn; simp only [List.mem_cons, List.not_mem_nil, or_false] at hp; rcases hp with rfl <;> first | (cases hn; done) | exact absurd _ (Nat.le_of_ble_eq_true rfl)) rfl (fun ρ0 => ?_)
        refine XD.take (i := 0) (l' := (lb 28 1)) (oA B5 [1, 1, 1, 1, 1, 1, 0] 0) (.v (.int .u8 0)) QOk.ctxG (by kernel_rfl) (by kernel_rfl) (by kernel_rfl) (by kernel_rfl) (by kernel_rfl) ?_
        refine XD.take (i := 1) (l' := (lb 28 3)) (oA B5 [1, 1, 1, 1, 1, 1, 0] 1) (.v (.int .u8 f)) QOk.ctxG (by kernel_rfl) (by kernel_rfl) (by kernel_rfl) (by kernel_rfl) (by kernel_rfl) ?_
        refine XD.take (i := 2) (l' := (lb 28 7)) (oA B5 [1, 1, 1, 1, 1, 1, 0] 2) (.v (.int .u8 (Int.tmod f 8))) QOk.ctxG (by kernel_rfl) (by kernel_rfl) (by kernel_rfl) (by kernel_rfl) (by kernel_rfl) ?_
        refine XD.take (i := 3) (l' := (lb 28 15)) (oA B5 [1, 1, 1, 1, 1, 1, 0] 3) (.v (.bool (0 == (Int.tmod f 8)))) QOk.ctxG (by kernel_rfl) (by kernel_rfl) (by kernel_rfl) (by kernel_rfl) (by kernel_rfl) ?_
        refine XD.take (i := 4) (l' := (lb 28 31)) (oA B5 [1, 1, 1, 1, 1, 1, 0] 4) (.v (.bool (0 == (Int.tmod f 8)))) QOk.ctxG (by kernel_rfl) (by kernel_rfl) (by kernel_rfl) (by kernel_rfl) (by kernel_rfl) ?_
        refine XD.isTrue 30 rfl (by rw [bits3 f hf.1 hf.2]; simp [*]) ?_
        refine XD.take (i := 5) (l' := (lb 28 63)) (oA B5 [1, 1, 1, 1, 1, 1, 0] 5) (.v (.bool (band .u8 f 4 != 0))) QOk.ctxG (by kernel_rfl) (by kernel_rfl) (by kernel_rfl) (by kernel_rfl) (by kernel_rfl) ?_
        refine XD.take (i := 6) (l' := (lb 28 127)) (oA B5 [1, 1, 1, 1, 1, 1, 0] 6) (.v (.bool (band .u8 f 2 != 0))) QOk.ctxG (by kernel_rfl) (by kernel_rfl) (by kernel_rfl) (by kernel_rfl) (by kernel_rfl) ?_
        refine XD.take (i := 7) (l' := (lb 28 255)) (oA B5 [1, 1, 1, 1, 1, 1, 0] 7) (.v (.bool (band .u8 f 1 != 0))) QOk.ctxG (by kernel_rfl) (by kernel_rfl) (by kernel_rfl) (by kernel_rfl) (by kernel_rfl) ?_
        refine XD.take (i := 9) (l' := (lb 28 767)) (oA B5 [1, 1, 1, 1, 1, 1, 0] 9) (.v (.int .u8 0)) QOk.ctxG (by kernel_rfl) (by kernel_rfl) (by kernel_rfl) (by kernel_rfl) (by kernel_rfl) ?_
        refine XD.norm [2, 4, 6, 30, 31, 32, 33, 35] [4] ⟨53, [(2, .v (.int .u8 g)), (4, .own 4 0), (6, .v (.bool false)), (30, .v (.bool true)), (31, .v (.bool (band .u8 f 4 != 0))), (32, .v (.bool (band .u8 f 2 != 0))), (33, .v (.bool (band .u8 f 1 != 0))), (35, .v (.int .u8 0))], [(4, ⟨31, [.v (.int .u16 s0), .v (.int .u16 s1), .v (.int .u32 s2), .v (.int .u32 s3), .v (.int .u8 s4), .v (.int .u8 s5), .v (.int .u8 s6), .v (.int .u16 s7), .v (.int .u16 s8), .v (.int .u16 s9)]⟩)]⟩ (by kernel_rfl) ⟨⟨fun _ h => (by cases h; rfl), rfl⟩, trivial⟩ ?_
        refine XD.one (i := 8) (l' := (lb 28 1023)) (oA B5 [1, 1, 1, 1, 1, 1, 0] 8) (by kernel_rfl) (by kernel_rfl) (by kernel_rfl) ?_
        refine X.callG (f := 36) (l := [.v (.bool (band .u8 f 4 != 0)), .v (.bool (band .u8 f 2 != 0)), .v (.bool (band .u8 f 1 != 0))]) [.bool (band .u8 f 4 != 0), .bool (band .u8 f 2 != 0), .bool (band .u8 f 1 != 0)] 0 (by kernel_rfl) (by kernel_rfl) (by kernel_rfl) (Ace_ok (band .u8 f 4 != 0) (band .u8 f 2 != 0) (band .u8 f 1 != 0) _) ?_
        rintro v38 G38 rows38 hG38 ⟨rfl, rfl⟩
        refine X.back ⟨⟨⟨fun _ h => (by cases h; rfl), rfl⟩, trivial⟩, hG38.le, rfl, ?_⟩
        refine XD.take (i := 10) (l' := (lb 28 2047)) (oA B5 [1, 1, 1, 1, 1, 1, 0] 10) (.v (.bool ((aceN (band .u8 f 4 != 0) (band .u8 f 2 != 0) (band .u8 f 1 != 0)) == 0))) QOk.ctxG (by kernel_rfl) (by kernel_rfl) (by kernel_rfl) (by kernel_rfl) (by kernel_rfl) ?_
        refine XD.take (i := 11) (l' := (lb 28 4095)) (oA B5 [1, 1, 1, 1, 1, 1, 0] 11) (.v (.bool ((aceN (band .u8 f 4 != 0) (band .u8 f 2 != 0) (band .u8 f 1 != 0)) == 0))) QOk.ctxG (by kernel_rfl) (by kernel_rfl) (by kernel_rfl) (by kernel_rfl) (by kernel_rfl) ?_
        refine XD.take (i := 12) (l' := (lb 28 8191)) (oA B5 [1, 1, 1, 1, 1, 1, 0] 12) (.v (.bool ((aceN (band .u8 f 4 != 0) (band .u8 f 2 != 0) (band .u8 f 1 != 0)) == 0))) QOk.ctxG (by kernel_rfl) (by kernel_rfl) (by kernel_rfl) (by kernel_rfl) (by kernel_rfl) ?_
        refine XD.isTrue 38 rfl (by simp [aceN, *]) ?_
        refine XD.take (i := 13) (l' := (lb 28 16383)) (oA B5 [1, 1, 1, 1, 1, 1, 0] 13) (.v (.agg #[.int .u16 s0, .int .u16 s1, .int .u32 s2, .int .u32 s3, .int .u8 s4, .int .u8 s5, .int .u8 s6, .int .u16 s7, .int .u16 s8, .int .u16 s9])) QOk.ctxG (by kernel_rfl) (by kernel_rfl) (by kernel_rfl) (by kernel_rfl) (by kernel_rfl) ?_
        refine XD.take (i := 14) (l' := (lb 28 32767)) (oA B5 [1, 1, 1, 1, 1, 1, 0] 14) (.v (.int .u8 g)) QOk.ctxG (by kernel_rfl) (by kernel_rfl) (by kernel_rfl) (by kernel_rfl) (by kernel_rfl) ?_
        refine XD.take (i := 16) (l' := (lb 28 98303)) (oA B5 [1, 1, 1, 1, 1, 1, 0] 16) (.own 4 6) QOk.ctxG (by kernel_rfl) (by kernel_rfl) (by kernel_rfl) (by kernel_rfl) (by kernel_rfl) ?_
        refine XD.take (i := 17) (l' := (lb 28 229375)) (oA B5 [1, 1, 1, 1, 1, 1, 0] 17) (.v (.int .u8 s6)) QOk.ctxG (by kernel_rfl) (by kernel_rfl) (by kernel_rfl) (by kernel_rfl) (by kernel_rfl) ?_
        refine XD.take (i := 18) (l' := (lb 28 491519)) (oA B5 [1, 1, 1, 1, 1, 1, 0] 18) (.v (.int .u8 (IntKind.u8.wrap (255 - s6)))) QOk.ctxG (by kernel_rfl) (by kernel_rfl) (by kernel_rfl) (by kernel_rfl) (by kernel_rfl) ?_
        refine XD.take (i := 19) (l' := (lb 28 1015807)) (oA B5 [1, 1, 1, 1, 1, 1, 0] 19) (.v (.int .u8 g)) QOk.ctxG (by kernel_rfl) (by kernel_rfl) (by kernel_rfl) (by kernel_rfl) (by kernel_rfl) ?_
        refine XD.take (i := 20) (l' := (lb 28 2064383)) (oA B5 [1, 1, 1, 1, 1, 1, 0] 20) (.v (.int .u8 (band .u8 (IntKind.u8.wrap (255 - s6)) g))) QOk.ctxG (by kernel_rfl) (by kernel_rfl) (by kernel_rfl) (by kernel_rfl) (by kernel_rfl) ?_
        refine XD.take (i := 21) (l' := (lb 28 4161535)) (oA B5 [1, 1, 1, 1, 1, 1, 0] 21) (.v (.bool ((band .u8 (IntKind.u8.wrap (255 - s6)) g) == 0))) QOk.ctxG (by kernel_rfl) (by kernel_rfl) (by kernel_rfl) (by kernel_rfl) (by kernel_rfl) ?_
        refine XD.norm [4, 6, 38, 39, 40, 47] [4] ⟨53, [(4, .own 4 0), (6, .v (.bool false)), (38, .v (.bool true)), (39, .v (.agg #[.int .u16 s0, .int .u16 s1, .int .u32 s2, .int .u32 s3, .int .u8 s4, .int .u8 s5, .int .u8 s6, .int .u16 s7, .int .u16 s8, .int .u16 s9])), (40, .v (.int .u8 g)), (47, .v (.bool ((band .u8 (IntKind.u8.wrap (255 - s6)) g) == 0)))], [(4, ⟨31, [.v (.int .u16 s0), .v (.int .u16 s1), .v (.int .u32 s2), .v (.int .u32 s3), .v (.int .u8 s4), .v (.int .u8 s5), .v (.int .u8 s6), .v (.int .u16 s7), .v (.int .u16 s8), .v (.int .u16 s9)]⟩)]⟩ (by kernel_rfl) ⟨⟨fun _ h => (by cases h; rfl), rfl⟩, trivial⟩ ?_
        refine XD.one (i := 15) (l' := (lb 28 4194303)) (oA B5 [1, 1, 1, 1, 1, 1, 0] 15) (by kernel_rfl) (by kernel_rfl) (by kernel_rfl) ?_
        refine X.callG (f := 37) (l := [.v (.agg #[.int .u16 s0, .int .u16 s1, .int .u32 s2, .int .u32 s3, .int .u8 s4, .int .u8 s5, .int .u8 s6, .int .u16 s7, .int .u16 s8, .int .u16 s9]), .v (.int .u8 g)]) [.agg #[.int .u16 s0, .int .u16 s1, .int .u32 s2, .int .u32 s3, .int .u8 s4, .int .u8 s5, .int .u8 s6, .int .u16 s7, .int .u16 s8, .int .u16 s9], .int .u8 g] 0 (by kernel_rfl) (by kernel_rfl) (by kernel_rfl) (Has_ok s0 s1 s2 s3 s4 s5 s6 s7 s8 s9 g _) ?_
        rintro v39 G39 rows39 hG39 ⟨rfl, rfl⟩
        refine X.back ⟨⟨⟨fun _ h => (by cases h; rfl), rfl⟩, trivial⟩, (hG38.trans hG39).le, rfl, ?_⟩
        refine XD.take (i := 22) (l' := (lb 28 8388607)) (oA B5 [1, 1, 1, 1, 1, 1, 0] 22) (.v (.bool ((band .u8 s6 g == g) == ((band .u8 (IntKind.u8.wrap (255 - s6)) g) == 0)))) QOk.ctxG (by kernel_rfl) (by kernel_rfl) (by kernel_rfl) (by kernel_rfl) (by kernel_rfl) ?_
        refine XD.take (i := 23) (l' := (lb 28 16777215)) (oA B5 [1, 1, 1, 1, 1, 1, 0] 23) (.v (.bool ((band .u8 s6 g == g) == ((band .u8 (IntKind.u8.wrap (255 - s6)) g) == 0)))) QOk.ctxG (by kernel_rfl) (by kernel_rfl) (by kernel_rfl) (by kernel_rfl) (by kernel_rfl) ?_
        refine XD.take (i := 24) (l' := (lb 28 33554431)) (oA B5 [1, 1, 1, 1, 1, 1, 0] 24) (.v (.bool ((band .u8 s6 g == g) == ((band .u8 (IntKind.u8.wrap (255 - s6)) g) == 0)))) QOk.ctxG (by kernel_rfl) (by kernel_rfl) (by kernel_rfl) (by kernel_rfl) (by kernel_rfl) ?_
        refine XD.isTrue 50 rfl (hasBits s6 g h6.1 h6.2 hg.1 hg.2) ?_
        refine XD.norm [4, 6, 50] [4] ⟨53, [(4, .own 4 0), (6, .v (.bool false)), (50, .v (.bool true))], [(4, ⟨31, [.v (.int .u16 s0), .v (.int .u16 s1), .v (.int .u32 s2), .v (.int .u32 s3), .v (.int .u8 s4), .v (.int .u8 s5), .v (.int .u8 s6), .v (.int .u16 s7), .v (.int .u16 s8), .v (.int .u16 s9)]⟩)]⟩ (by kernel_rfl) ⟨⟨fun _ h => (by cases h; rfl), rfl⟩, trivial⟩ ?_
        refine XD.one (i := 25) (l' := (lb 28 67108863)) (oA B5 [1, 1, 1, 1, 1, 1, 0] 25) (by kernel_rfl) (by kernel_rfl) (by kernel_rfl) ?_
        refine X.callG (f := 34) (l := []) [] 0 (by kernel_rfl) (by kernel_rfl) (by kernel_rfl) (works11_ok _) ?_
        rintro v40 G40 rows40 hG40 ⟨rfl, rfl⟩
        refine X.back ⟨⟨⟨fun _ h => (by cases h; rfl), rfl⟩, trivial⟩, ((hG38.trans hG39).trans hG40).le, rfl, ?_⟩
        refine XD.take (i := 26) (l' := (lb 28 134217727)) (oA B5 [1, 1, 1, 1, 1, 1, 0] 26) (.v (.bool true)) QOk.ctxG (by kernel_rfl) (by kernel_rfl) (by kernel_rfl) (by kernel_rfl) (by kernel_rfl) ?_
        refine XD.take (i := 27) (l' := (lb 28 268435455)) (oA B5 [1, 1, 1, 1, 1, 1, 0] 27) (.v (.bool true)) QOk.ctxG (by kernel_rfl) (by kernel_rfl) (by kernel_rfl) (by kernel_rfl) (by kernel_rfl) ?_
        refine XD.done (by kernel_rfl) ?_
        refine X.run 2 [6] [] (.ex .ret) [] ⟨53, [(6, .v (.bool true))], []⟩ (by kernel_rfl) ?_
        refine doneG (.inl rfl) [.bool true] [] (by kernel_rfl) rfl rfl ((((hG1.trans hG38).trans hG39).trans hG40)) ?_
        -- end 8 (FFF)
        exact ⟨rfl, rfl⟩
end Go.Proofs.YtjgpdbkkpomhjaaX
