/- leatref11.Parse -/
import Derived.Test.YtjgpdbkkpomhjaaProg
import Derived.KernelRfl
import Derived.Test.YtjgpdbkkpomhjaaXT1
namespace Go.Proofs.YtjgpdbkkpomhjaaX
open Go.RowKit
set_option linter.unusedVariables false
set_option linter.unusedSimpArgs false
set_option maxRecDepth 100000
theorem ref_go {x q : Int} {l : List Int} {k : Nat} (hk : k < 6) (hx : fv x = 2 ^ k) (h0 : 0 ≤ q) (h1 : q < 64) (hp : hbit q k = false) : pr (x :: l) q = pr l (q + 2 ^ k) ∧ 0 ≤ q + 2 ^ k ∧ q + 2 ^ k < 64 ∧ ∀ j : Nat, j < 6 → hbit (q + 2 ^ k) j = (hbit q j || j == k) := by
  obtain ⟨h2, h3, h4⟩ := sixI h0 h1 hk hp
  have hpos : (0 : Int) < 2 ^ k := Int.pow_pos (by decide)
  have hb : band .u8 q (2 ^ k) = 0 := by simpa [hbit] using hp
  have := pr_go (l := l) h0 h1 (by rw [hx]; omega) (by rw [hx]; exact hb)
  rw [hx, h2] at this
  exact ⟨this.1, by omega, h3, h4⟩
theorem ref_stop {x q : Int} {l : List Int} {k : Nat} (hx : fv x = 2 ^ k) (hp : hbit q k = true) : pr (x :: l) q = none :=
  pr_stop (.inr (by rw [hx]; simpa [hbit] using hp))
def lett : List Int := [70, 83, 82, 80, 65, 85]
def tx (f : Int) : Nat → List Int
  | 0 => []
  | n + 1 => tx f n ++ (if f / 2 ^ n % 2 = 1 then [lett.getD n 0] else [])
def textL (f : Int) : List Int := if tx f 6 = [] then [45] else tx f 6
theorem tx_yes {f : Int} {n : Nat} (h : f / 2 ^ n % 2 = 1) : tx f (n + 1) = tx f n ++ [lett.getD n 0] := by simp [tx, h]
theorem tx_no {f : Int} {n : Nat} (h : f / 2 ^ n % 2 ≠ 1) : tx f (n + 1) = tx f n := by simp [tx, h]
theorem lett_range (n : Nat) : 0 ≤ lett.getD n 0 ∧ lett.getD n 0 < 128 := by
  by_cases h : n < 6
  · have h6 : ∀ k : Fin 6, 0 ≤ lett.getD k.1 0 ∧ lett.getD k.1 0 < 128 := by decide
    exact h6 ⟨n, h⟩
  · rw [List.getD_eq_getElem?_getD, List.getElem?_eq_none (show lett.length ≤ n by simp [lett]; omega)]
    simp
theorem tx_range (f : Int) : ∀ k : Nat, ∀ n ∈ tx f k, 0 ≤ n ∧ n < 128
  | 0, n, h => by cases h
  | k + 1, n, h => by
    simp only [tx, List.mem_append] at h
    rcases h with h | h
    · exact tx_range f k n h
    · split at h
      · simp only [List.mem_singleton] at h; subst h; exact lett_range k
      · cases h
theorem bitAt {f : Int} (h0 : 0 ≤ f) (h1 : f ≤ 255) {k : Nat} (hk : k < 8) : band .u8 (bshr .u8 f k) 1 = f / 2 ^ k % 2 := by
  have hp : (0 : Int) < 2 ^ k := Int.pow_pos (by decide)
  have e : bshr .u8 f k = f / 2 ^ k := by rw [shr_nn h0, show min k IntKind.u8.bits = k from Nat.min_eq_left (Nat.le_of_lt hk)]
  have h2 := Int.ediv_nonneg h0 (Int.le_of_lt hp)
  have h3 := Int.ediv_le_self (2 ^ k) h0
  rw [e, show (1 : Int) = ((2 ^ 1 - 1 : Nat) : Int) by decide, band_low (k := .u8) (m := 1) rfl h2 (show _ < (2 : Int) ^ 8 by omega) (by decide)]
  rfl
theorem strOf_snoc (l : List Int) (n : Int) : strOf (l ++ [n]) = strOf l ++ ⟨#[UInt8.ofNat n.toNat]⟩ := by
  apply ByteArray.ext
  simp [strOf, ByteArray.push, ByteArray.data_append]
theorem halve2 {f g : Int} {n : Nat} (h : g = f / 2 ^ n) : g / 2 = f / 2 ^ (n + 1) := by
  rw [h, Int.ediv_ediv_of_nonneg (Int.le_of_lt (Int.pow_pos (by decide))), Int.pow_succ]
theorem strOf_nil {l : List Int} (h : strOf l = ⟨#[]⟩) : l = [] := by
  have := strOf_size l
  rw [h] at this
  exact List.eq_nil_of_length_eq_zero this.symm
theorem prs_text {f : Int} (h0 : 0 ≤ f) (h1 : f ≤ 255) : prs (strOf (textL f)) = (f % 64, true) := by
  have h : ∀ f : Fin 256, prs (strOf (textL ((f.1 : Nat) : Int))) = (((f.1 : Nat) : Int) % 64, true) := by decide +kernel
  obtain ⟨n, rfl⟩ : ∃ n : Nat, f = n := ⟨f.toNat, by omega⟩
  exact h ⟨n, by omega⟩

/-- leat/leatref11.Parse -/
noncomputable def B42 : Code := bodyOf Try.f42
set_option maxHeartbeats 1000000 in
theorem rParse_ok (z : ByteArray) (hz : z.size ≤ 60) (G : Mem) : CallsG Try.prog 42 [.string z] G (fun _ v rows => v = .tuple #[.int .u8 (prs z).1, .bool (prs z).2] ∧ rows = []) := by
  refine CallsG.enter Try.func42 rfl rfl ?_
  intro w
  refine X.run 13 [0, 2, 3, 11] [] (.code (cA B42 [1, 0, 1])) [.seq (cA B42 [1, 1])] ⟨44, [(0, .v (.string z)), (2, .v (.int .u8 0)), (3, .v (.bool false)), (11, .v (.bool (z.toList == (⟨#[45]⟩ : ByteArray).toList)))], []⟩ (by kernel_rfl) ?_
  refine X.split 11 rfl (fun h1 => ?_) (fun h1 => ?_)
  · -- slot 11: (z.toList == (⟨#[45]⟩ : ByteArray).toList) is True
    replace h1 : z = (⟨#[45]⟩ : ByteArray) := strT h1
    refine X.run 9 [2, 3] [] (.ex .ret) [] ⟨44, [(2, .v (.int .u8 0)), (3, .v (.bool true))], []⟩ (by kernel_rfl) ?_
    refine doneG (.inl rfl) [.int .u8 0, .bool true] [] (by kernel_rfl) rfl rfl (Ge.refl _ _) ?_
    -- end 1 (T)
    refine ⟨?_, rfl⟩
    unfold prs; rw [if_pos (by assumption)]; rfl
  · -- slot 11: (z.toList == (⟨#[45]⟩ : ByteArray).toList) is False
    replace h1 : z ≠ (⟨#[45]⟩ : ByteArray) := strF h1
    refine X.run 20 [0, 2, 3, 4, 5, 6] [4] (.code (cA B42 [1, 1, 1, 1, 0, 1, 0])) [.blk 0, .seq (cA B42 [1, 1, 1, 1, 1])] ⟨44, [(0, .v (.string z)), (2, .v (.int .u8 0)), (3, .v (.bool false)), (4, .own 4 0), (5, .v (.int .u8 0)), (6, .v (.int .i64 0))], [(4, ⟨146, [.v (.bool false), .v (.bool false), .v (.bool false), .v (.bool false), .v (.bool false), .v (.bool false)]⟩)]⟩ (by kernel_rfl) ?_
    refine X.run 0 [0, 4, 5, 6] [4] (.code (cA B42 [1, 1, 1, 1, 0, 1, 0])) [.blk 0, .seq (cA B42 [1, 1, 1, 1, 1])] ⟨44, [(0, .v (.string z)), (4, .own 4 0), (5, .v (.int .u8 0)), (6, .v (.int .i64 0))], [(4, ⟨146, [.v (.bool false), .v (.bool false), .v (.bool false), .v (.bool false), .v (.bool false), .v (.bool false)]⟩)]⟩ (by kernel_rfl) ?_
    refine X.loopJ (fun m s R' G' => ∃ (q i : Int) (p0_ p1_ p2_ p3_ p4_ p5_ : Bool), s = ⟨44, [(0, .v (.string z)), (4, .own 4 0), (5, .v (.int .u8 q)), (6, .v (.int .i64 i))], [(4, ⟨146, [.v (.bool p0_), .v (.bool p1_), .v (.bool p2_), .v (.bool p3_), .v (.bool p4_), .v (.bool p5_)]⟩)]⟩ ∧ R' = [] ∧ G = G' ∧ (0 ≤ i ∧ i ≤ (z.size : Int) ∧ 0 ≤ q ∧ q < 64 ∧ p0_ = hbit q 0 ∧ p1_ = hbit q 1 ∧ p2_ = hbit q 2 ∧ p3_ = hbit q 3 ∧ p4_ = hbit q 4 ∧ p5_ = hbit q 5 ∧ pr (bytesL z) 0 = pr ((bytesL z).drop i.toNat) q) ∧ m = ((z.size : Int) - i).toNat) _ ⟨0, 0, false, false, false, false, false, false, rfl, rfl, rfl, ⟨by omega, by omega, by omega, by omega, rfl, rfl, rfl, rfl, rfl, rfl, rfl⟩, rfl⟩ ?_
    rintro m2 s2 R2 G2 ⟨q, i, p0_, p1_, p2_, p3_, p4_, p5_, rfl, rfl, rfl, hF2, rfl⟩ J2 hJ2
    obtain ⟨hi0, hi1, hq0, hq1, hP0, hP1, hP2, hP3, hP4, hP5, hpr⟩ := hF2
    refine X.run 9 [0, 4, 5, 6, 15] [4] (.code (cA B42 [1, 1, 1, 1, 0, 1, 0, 0, 0, 1])) [.seq (cA B42 [1, 1, 1, 1, 0, 1, 0, 0, 1]), .loop J2, .blk 0, .seq (cA B42 [1, 1, 1, 1, 1])] ⟨44, [(0, .v (.string z)), (4, .own 4 0), (5, .v (.int .u8 q)), (6, .v (.int .i64 i)), (15, .v (.bool (decide (i < (z.size : Int)))))], [(4, ⟨146, [.v (.bool p0_), .v (.bool p1_), .v (.bool p2_), .v (.bool p3_), .v (.bool p4_), .v (.bool p5_)]⟩)]⟩ (by kernel_rfl) ?_
    refine X.split 15 rfl (fun h3 => ?_) (fun h3 => ?_)
    · -- slot 15: decide (i < (z.size : Int)) is True
      replace h3 : i < (z.size : Int) := of_decide_eq_true h3
      refine X.run 18 [0, 4, 5, 6, 7, 8, 9] [4] (.code (cA B42 [1, 1, 1, 1, 0, 1, 0, 0, 1, 0, 0, 1, 0, 1, 0])) [.blk 2, .seq (cA B42 [1, 1, 1, 1, 0, 1, 0, 0, 1, 0, 0, 1, 1]), .blk 1, .seq (cA B42 [1, 1, 1, 1, 0, 1, 0, 0, 1, 1]), .loop J2, .blk 0, .seq (cA B42 [1, 1, 1, 1, 1])] ⟨44, [(0, .v (.string z)), (4, .own 4 0), (5, .v (.int .u8 q)), (6, .v (.int .i64 i)), (7, .v (.int .i64 (-1))), (8, .v (.int .u8 1)), (9, .v (.int .i64 0))], [(4, ⟨146, [.v (.bool p0_), .v (.bool p1_), .v (.bool p2_), .v (.bool p3_), .v (.bool p4_), .v (.bool p5_)]⟩)]⟩ (by kernel_rfl) ?_
      refine X.rounds 8 ?_
      refine RX.succ fun J4 hJ4 => ?_
      refine X.run 14 [0, 4, 5, 6, 7, 8, 9, 18, 19] [4] (.code (cA B42 [1, 1, 1, 1, 0, 1, 0, 0, 1, 0, 0, 1, 0, 1, 0, 0, 1, 0, 0, 0, 0])) [.seq (cA B42 [1, 1, 1, 1, 0, 1, 0, 0, 1, 0, 0, 1, 0, 1, 0, 0, 1, 0, 0, 0, 1]), .seq (cA B42 [1, 1, 1, 1, 0, 1, 0, 0, 1, 0, 0, 1, 0, 1, 0, 0, 1, 0, 0, 1]), .blk 3, .seq (cA B42 [1, 1, 1, 1, 0, 1, 0, 0, 1, 0, 0, 1, 0, 1, 0, 0, 1, 1]), .loop J4, .blk 2, .seq (cA B42 [1, 1, 1, 1, 0, 1, 0, 0, 1, 0, 0, 1, 1]), .blk 1, .seq (cA B42 [1, 1, 1, 1, 0, 1, 0, 0, 1, 1]), .loop J2, .blk 0, .seq (cA B42 [1, 1, 1, 1, 1])] ⟨44, [(0, .v (.string z)), (4, .own 4 0), (5, .v (.int .u8 q)), (6, .v (.int .i64 i)), (7, .v (.int .i64 (-1))), (8, .v (.int .u8 1)), (9, .v (.int .i64 0)), (18, .v (.int .i64 0)), (19, .v (.bool true))], [(4, ⟨146, [.v (.bool p0_), .v (.bool p1_), .v (.bool p2_), .v (.bool p3_), .v (.bool p4_), .v (.bool p5_)]⟩)]⟩ (by kernel_rfl) ?_
      refine XD.open (id := 12) (arr := aA B42 [1, 1, 1, 1, 0, 1, 0, 0, 1, 0, 0, 1, 0, 1, 0, 0, 1, 0, 0, 0, 0]) 6 [] [] [] (by kernel_rfl) (by kernel_rfl) (by kernel_rfl) (by kernel_rfl) (by kernel_rfl) trivial (by simp) rfl (fun ρ0 => ?_)
      refine XD.take (i := 0) (l' := (lb 6 1)) (oA B42 [1, 1, 1, 1, 0, 1, 0, 0, 1, 0, 0, 1, 0, 1, 0, 0, 1, 0, 0, 0, 0] 0) (.v (.int .i64 0)) QOk.ctxG (by kernel_rfl) (by kernel_rfl) (by kernel_rfl) (by kernel_rfl) (by kernel_rfl) ?_
      refine XD.indexStr (i := 1) (l' := (lb 6 3)) (oA B42 [1, 1, 1, 1, 0, 1, 0, 0, 1, 0, 0, 1, 0, 1, 0, 0, 1, 0, 0, 0, 0] 1) (t := 9) (b := (⟨#[70, 83, 82, 80, 65, 85]⟩ : ByteArray)) (ki := .i64) (j := 0) (x := .const (.string (⟨#[70, 83, 82, 80, 65, 85]⟩ : ByteArray))) (ix := .tmp 22) QOk.ctxG (by kernel_rfl) (by kernel_rfl) (by kernel_rfl) (by kernel_rfl) (by kernel_rfl) (by kernel_rfl) (by decide) (by decide) (by kernel_rfl) (by kernel_rfl) ?_
      refine XD.known 23 (y := .v (.int .u8 70)) rfl (congrArg (fun z_ => AV.v (.int .u8 z_)) (by decide)) ?_
      refine XD.take (i := 2) (l' := (lb 6 7)) (oA B42 [1, 1, 1, 1, 0, 1, 0, 0, 1, 0, 0, 1, 0, 1, 0, 0, 1, 0, 0, 0, 0] 2) (.v (.string z)) QOk.ctxG (by kernel_rfl) (by kernel_rfl) (by kernel_rfl) (by kernel_rfl) (by kernel_rfl) ?_
      refine XD.take (i := 3) (l' := (lb 6 15)) (oA B42 [1, 1, 1, 1, 0, 1, 0, 0, 1, 0, 0, 1, 0, 1, 0, 0, 1, 0, 0, 0, 0] 3) (.v (.int .i64 i)) QOk.ctxG (by kernel_rfl) (by kernel_rfl) (by kernel_rfl) (by kernel_rfl) (by kernel_rfl) ?_
      refine XD.indexStr (i := 4) (l' := (lb 6 31)) (oA B42 [1, 1, 1, 1, 0, 1, 0, 0, 1, 0, 0, 1, 0, 1, 0, 0, 1, 0, 0, 0, 0] 4) (t := 9) (b := z) (ki := .i64) (j := i) (x := .tmp 24) (ix := .tmp 25) QOk.ctxG (by kernel_rfl) (by kernel_rfl) (by kernel_rfl) (by kernel_rfl) (by kernel_rfl) (by kernel_rfl) (by omega) (by omega) (by kernel_rfl) (by kernel_rfl) ?_
      refine XD.take (i := 5) (l' := (lb 6 63)) (oA B42 [1, 1, 1, 1, 0, 1, 0, 0, 1, 0, 0, 1, 0, 1, 0, 0, 1, 0, 0, 0, 0] 5) (.v (.bool (70 == (byteAt z ((i).toNat))))) QOk.ctxG (by kernel_rfl) (by kernel_rfl) (by kernel_rfl) (by kernel_rfl) (by kernel_rfl) ?_
      refine XD.done (by kernel_rfl) ?_
      refine X.run 1 [0, 4, 5, 6, 7, 8, 9, 18, 19, 22, 23, 24, 25, 26, 27] [4] (.code (cA B42 [1, 1, 1, 1, 0, 1, 0, 0, 1, 0, 0, 1, 0, 1, 0, 0, 1, 0, 0, 0, 1])) [.seq (cA B42 [1, 1, 1, 1, 0, 1, 0, 0, 1, 0, 0, 1, 0, 1, 0, 0, 1, 0, 0, 1]), .blk 3, .seq (cA B42 [1, 1, 1, 1, 0, 1, 0, 0, 1, 0, 0, 1, 0, 1, 0, 0, 1, 1]), .loop J4, .blk 2, .seq (cA B42 [1, 1, 1, 1, 0, 1, 0, 0, 1, 0, 0, 1, 1]), .blk 1, .seq (cA B42 [1, 1, 1, 1, 0, 1, 0, 0, 1, 1]), .loop J2, .blk 0, .seq (cA B42 [1, 1, 1, 1, 1])] ⟨44, [(0, .v (.string z)), (4, .own 4 0), (5, .v (.int .u8 q)), (6, .v (.int .i64 i)), (7, .v (.int .i64 (-1))), (8, .v (.int .u8 1)), (9, .v (.int .i64 0)), (18, .v (.int .i64 0)), (19, .v (.bool true)), (22, .v (.int .i64 0)), (23, .v (.int .u8 70)), (24, .v (.string z)), (25, .v (.int .i64 i)), (26, .v (.int .u8 (byteAt z ((i).toNat)))), (27, .v (.bool (70 == (byteAt z ((i).toNat)))))], [(4, ⟨146, [.v (.bool p0_), .v (.bool p1_), .v (.bool p2_), .v (.bool p3_), .v (.bool p4_), .v (.bool p5_)]⟩)]⟩ (by kernel_rfl) ?_
      refine X.split 27 rfl (fun h6 => ?_) (fun h6 => ?_)
      · -- slot 27: 70 == (byteAt z ((i).toNat)) is True
        replace h6 : 70 = (byteAt z ((i).toNat)) := by simpa using h6
        refine X.run 26 [0, 4, 5, 6, 7, 8, 37] [4] (.code (cA B42 [1, 1, 1, 1, 0, 1, 0, 0, 1, 0, 0, 1, 1, 0, 1])) [.seq (cA B42 [1, 1, 1, 1, 0, 1, 0, 0, 1, 0, 0, 1, 1, 1]), .blk 1, .seq (cA B42 [1, 1, 1, 1, 0, 1, 0, 0, 1, 1]), .loop J2, .blk 0, .seq (cA B42 [1, 1, 1, 1, 1])] ⟨44, [(0, .v (.string z)), (4, .own 4 0), (5, .v (.int .u8 q)), (6, .v (.int .i64 i)), (7, .v (.int .i64 0)), (8, .v (.int .u8 1)), (37, .v (.bool p0_))], [(4, ⟨146, [.v (.bool p0_), .v (.bool p1_), .v (.bool p2_), .v (.bool p3_), .v (.bool p4_), .v (.bool p5_)]⟩)]⟩ (by kernel_rfl) ?_
        refine X.split 37 rfl (fun h7 => ?_) (fun h7 => ?_)
        · -- slot 37: p0_ is True
          refine X.run 14 [2, 3] [] (.ex .ret) [] ⟨44, [(2, .v (.int .u8 0)), (3, .v (.bool false))], []⟩ (by kernel_rfl) ?_
          refine doneG (.inl rfl) [.int .u8 0, .bool false] [] (by kernel_rfl) rfl rfl (Ge.refl _ _) ?_
          -- end 2 (FTTT)
          -- FTTT
          refine ⟨?_, rfl⟩
          have hn_ : pr (bytesL z) 0 = none := by
            rw [hpr, bytesL_drop (by omega)]
            exact ref_stop (k := 0) (by rw [← (show (70 : Int) = byteAt z i.toNat by assumption)]; rfl) (by rw [← hP0]; assumption)
          unfold prs; rw [if_neg (by assumption), hn_]; rfl
        · -- slot 37: p0_ is False
          refine X.run 23 [0, 4, 5, 6] [4] (.ex .normal) [.loop J2, .blk 0, .seq (cA B42 [1, 1, 1, 1, 1])] ⟨44, [(0, .v (.string z)), (4, .own 4 0), (5, .v (.int .u8 (IntKind.u8.wrap (q + 1)))), (6, .v (.int .i64 (IntKind.i64.wrap (i + 1))))], [(4, ⟨146, [.v (.bool true), .v (.bool p1_), .v (.bool p2_), .v (.bool p3_), .v (.bool p4_), .v (.bool p5_)]⟩)]⟩ (by kernel_rfl) ?_
          -- again (FTTF)
          have hx_ : fv (byteAt z i.toNat) = 2 ^ 0 := by rw [← (show (70 : Int) = byteAt z i.toNat by assumption)]; rfl
          have hp_ : hbit q 0 = false := by rw [← hP0]; assumption
          obtain ⟨g1_, g2_, g3_, g4_⟩ := ref_go (l := (bytesL z).drop (i.toNat + 1)) (k := 0) (by decide) hx_ hq0 hq1 hp_
          simp only [show ((2 : Int) ^ 0) = 1 by decide] at g1_ g2_ g3_ g4_
          have e1 : IntKind.u8.wrap (q + 1) = q + 1 := wu8 (by omega) (by omega)
          have e2 : IntKind.i64.wrap (i + 1) = i + 1 := wi64 (by omega) (by omega)
          have e3 : (i + 1).toNat = i.toNat + 1 := by omega
          exact X.again (hJ2 _ _ _ _ ⟨IntKind.u8.wrap (q + 1), IntKind.i64.wrap (i + 1), true, p1_, p2_, p3_, p4_, p5_, rfl, rfl, rfl, ⟨by omega, by omega, by rw [e1]; exact g2_, by rw [e1]; exact g3_, by rw [e1, g4_ 0 (by decide)]; simp, by rw [e1, g4_ 1 (by decide)]; rw [← hP1]; simp, by rw [e1, g4_ 2 (by decide)]; rw [← hP2]; simp, by rw [e1, g4_ 3 (by decide)]; rw [← hP3]; simp, by rw [e1, g4_ 4 (by decide)]; rw [← hP4]; simp, by rw [e1, g4_ 5 (by decide)]; rw [← hP5]; simp, by rw [hpr, bytesL_drop (by omega), g1_, e1, e2, e3]⟩, rfl⟩ (by rw [e2]; omega))
      · -- slot 27: 70 == (byteAt z ((i).toNat)) is False
        replace h6 : 70 ≠ (byteAt z ((i).toNat)) := by simpa using h6
        refine X.run 15 [0, 4, 5, 6, 7, 8, 9, 18, 19, 20, 21, 22, 23, 24, 25, 26, 27, 29, 30] [4] (.ex .normal) [.loop J4, .blk 2, .seq (cA B42 [1, 1, 1, 1, 0, 1, 0, 0, 1, 0, 0, 1, 1]), .blk 1, .seq (cA B42 [1, 1, 1, 1, 0, 1, 0, 0, 1, 1]), .loop J2, .blk 0, .seq (cA B42 [1, 1, 1, 1, 1])] ⟨44, [(0, .v (.string z)), (4, .own 4 0), (5, .v (.int .u8 q)), (6, .v (.int .i64 i)), (7, .v (.int .i64 (-1))), (8, .v (.int .u8 2)), (9, .v (.int .i64 1)), (18, .v (.int .i64 0)), (19, .v (.bool true)), (20, .v (.int .i64 0)), (21, .v (.int .i64 1)), (22, .v (.int .i64 0)), (23, .v (.int .u8 70)), (24, .v (.string z)), (25, .v (.int .i64 i)), (26, .v (.int .u8 (byteAt z ((i).toNat)))), (27, .v (.bool false)), (29, .v (.int .u8 1)), (30, .v (.int .u8 2))], [(4, ⟨146, [.v (.bool p0_), .v (.bool p1_), .v (.bool p2_), .v (.bool p3_), .v (.bool p4_), .v (.bool p5_)]⟩)]⟩ (by kernel_rfl) ?_
        refine X.again (hJ4 _ _ _ ?_)
        refine RX.succ fun J8 hJ8 => ?_
        refine X.run 14 [0, 4, 5, 6, 7, 8, 9, 18, 19, 20, 21, 22, 23, 24, 25, 26, 27, 29, 30] [4] (.code (cA B42 [1, 1, 1, 1, 0, 1, 0, 0, 1, 0, 0, 1, 0, 1, 0, 0, 1, 0, 0, 0, 0])) [.seq (cA B42 [1, 1, 1, 1, 0, 1, 0, 0, 1, 0, 0, 1, 0, 1, 0, 0, 1, 0, 0, 0, 1]), .seq (cA B42 [1, 1, 1, 1, 0, 1, 0, 0, 1, 0, 0, 1, 0, 1, 0, 0, 1, 0, 0, 1]), .blk 3, .seq (cA B42 [1, 1, 1, 1, 0, 1, 0, 0, 1, 0, 0, 1, 0, 1, 0, 0, 1, 1]), .loop J8, .blk 2, .seq (cA B42 [1, 1, 1, 1, 0, 1, 0, 0, 1, 0, 0, 1, 1]), .blk 1, .seq (cA B42 [1, 1, 1, 1, 0, 1, 0, 0, 1, 1]), .loop J2, .blk 0, .seq (cA B42 [1, 1, 1, 1, 1])] ⟨44, [(0, .v (.string z)), (4, .own 4 0), (5, .v (.int .u8 q)), (6, .v (.int .i64 i)), (7, .v (.int .i64 (-1))), (8, .v (.int .u8 2)), (9, .v (.int .i64 1)), (18, .v (.int .i64 1)), (19, .v (.bool true)), (20, .v (.int .i64 0)), (21, .v (.int .i64 1)), (22, .v (.int .i64 0)), (23, .v (.int .u8 70)), (24, .v (.string z)), (25, .v (.int .i64 i)), (26, .v (.int .u8 (byteAt z ((i).toNat)))), (27, .v (.bool false)), (29, .v (.int .u8 1)), (30, .v (.int .u8 2))], [(4, ⟨146, [.v (.bool p0_), .v (.bool p1_), .v (.bool p2_), .v (.bool p3_), .v (.bool p4_), .v (.bool p5_)]⟩)]⟩ (by kernel_rfl) ?_
        refine XD.open (id := 12) (arr := aA B42 [1, 1, 1, 1, 0, 1, 0, 0, 1, 0, 0, 1, 0, 1, 0, 0, 1, 0, 0, 0, 0]) 6 [] [] [] (by kernel_rfl) (by kernel_rfl) (by kernel_rfl) (by kernel_rfl) (by kernel_rfl) trivial (by simp) rfl (fun ρ0 => ?_)
        refine XD.take (i := 0) (l' := (lb 6 1)) (oA B42 [1, 1, 1, 1, 0, 1, 0, 0, 1, 0, 0, 1, 0, 1, 0, 0, 1, 0, 0, 0, 0] 0) (.v (.int .i64 1)) QOk.ctxG (by kernel_rfl) (by kernel_rfl) (by kernel_rfl) (by kernel_rfl) (by kernel_rfl) ?_
        refine XD.indexStr (i := 1) (l' := (lb 6 3)) (oA B42 [1, 1, 1, 1, 0, 1, 0, 0, 1, 0, 0, 1, 0, 1, 0, 0, 1, 0, 0, 0, 0] 1) (t := 9) (b := (⟨#[70, 83, 82, 80, 65, 85]⟩ : ByteArray)) (ki := .i64) (j := 1) (x := .const (.string (⟨#[70, 83, 82, 80, 65, 85]⟩ : ByteArray))) (ix := .tmp 22) QOk.ctxG (by kernel_rfl) (by kernel_rfl) (by kernel_rfl) (by kernel_rfl) (by kernel_rfl) (by kernel_rfl) (by decide) (by decide) (by kernel_rfl) (by kernel_rfl) ?_
        refine XD.known 23 (y := .v (.int .u8 83)) rfl (congrArg (fun z_ => AV.v (.int .u8 z_)) (by decide)) ?_
        refine XD.take (i := 2) (l' := (lb 6 7)) (oA B42 [1, 1, 1, 1, 0, 1, 0, 0, 1, 0, 0, 1, 0, 1, 0, 0, 1, 0, 0, 0, 0] 2) (.v (.string z)) QOk.ctxG (by kernel_rfl) (by kernel_rfl) (by kernel_rfl) (by kernel_rfl) (by kernel_rfl) ?_
        refine XD.take (i := 3) (l' := (lb 6 15)) (oA B42 [1, 1, 1, 1, 0, 1, 0, 0, 1, 0, 0, 1, 0, 1, 0, 0, 1, 0, 0, 0, 0] 3) (.v (.int .i64 i)) QOk.ctxG (by kernel_rfl) (by kernel_rfl) (by kernel_rfl) (by kernel_rfl) (by kernel_rfl) ?_
        refine XD.indexStr (i := 4) (l' := (lb 6 31)) (oA B42 [1, 1, 1, 1, 0, 1, 0, 0, 1, 0, 0, 1, 0, 1, 0, 0, 1, 0, 0, 0, 0] 4) (t := 9) (b := z) (ki := .i64) (j := i) (x := .tmp 24) (ix := .tmp 25) QOk.ctxG (by kernel_rfl) (by kernel_rfl) (by kernel_rfl) (by kernel_rfl) (by kernel_rfl) (by kernel_rfl) (by omega) (by omega) (by kernel_rfl) (by kernel_rfl) ?_
        refine XD.take (i := 5) (l' := (lb 6 63)) (oA B42 [1, 1, 1, 1, 0, 1, 0, 0, 1, 0, 0, 1, 0, 1, 0, 0, 1, 0, 0, 0, 0] 5) (.v (.bool (83 == (byteAt z ((i).toNat))))) QOk.ctxG (by kernel_rfl) (by kernel_rfl) (by kernel_rfl) (by kernel_rfl) (by kernel_rfl) ?_
        refine XD.done (by kernel_rfl) ?_
        refine X.run 1 [0, 4, 5, 6, 7, 8, 9, 18, 19, 20, 21, 22, 23, 24, 25, 26, 27, 29, 30] [4] (.code (cA B42 [1, 1, 1, 1, 0, 1, 0, 0, 1, 0, 0, 1, 0, 1, 0, 0, 1, 0, 0, 0, 1])) [.seq (cA B42 [1, 1, 1, 1, 0, 1, 0, 0, 1, 0, 0, 1, 0, 1, 0, 0, 1, 0, 0, 1]), .blk 3, .seq (cA B42 [1, 1, 1, 1, 0, 1, 0, 0, 1, 0, 0, 1, 0, 1, 0, 0, 1, 1]), .loop J8, .blk 2, .seq (cA B42 [1, 1, 1, 1, 0, 1, 0, 0, 1, 0, 0, 1, 1]), .blk 1, .seq (cA B42 [1, 1, 1, 1, 0, 1, 0, 0, 1, 1]), .loop J2, .blk 0, .seq (cA B42 [1, 1, 1, 1, 1])] ⟨44, [(0, .v (.string z)), (4, .own 4 0), (5, .v (.int .u8 q)), (6, .v (.int .i64 i)), (7, .v (.int .i64 (-1))), (8, .v (.int .u8 2)), (9, .v (.int .i64 1)), (18, .v (.int .i64 1)), (19, .v (.bool true)), (20, .v (.int .i64 0)), (21, .v (.int .i64 1)), (22, .v (.int .i64 1)), (23, .v (.int .u8 83)), (24, .v (.string z)), (25, .v (.int .i64 i)), (26, .v (.int .u8 (byteAt z ((i).toNat)))), (27, .v (.bool (83 == (byteAt z ((i).toNat))))), (29, .v (.int .u8 1)), (30, .v (.int .u8 2))], [(4, ⟨146, [.v (.bool p0_), .v (.bool p1_), .v (.bool p2_), .v (.bool p3_), .v (.bool p4_), .v (.bool p5_)]⟩)]⟩ (by kernel_rfl) ?_
        refine X.split 27 rfl (fun h10 => ?_) (fun h10 => ?_)
        · -- slot 27: 83 == (byteAt z ((i).toNat)) is True
          replace h10 : 83 = (byteAt z ((i).toNat)) := by simpa using h10
          refine X.run 26 [0, 4, 5, 6, 7, 8, 37] [4] (.code (cA B42 [1, 1, 1, 1, 0, 1, 0, 0, 1, 0, 0, 1, 1, 0, 1])) [.seq (cA B42 [1, 1, 1, 1, 0, 1, 0, 0, 1, 0, 0, 1, 1, 1]), .blk 1, .seq (cA B42 [1, 1, 1, 1, 0, 1, 0, 0, 1, 1]), .loop J2, .blk 0, .seq (cA B42 [1, 1, 1, 1, 1])] ⟨44, [(0, .v (.string z)), (4, .own 4 0), (5, .v (.int .u8 q)), (6, .v (.int .i64 i)), (7, .v (.int .i64 1)), (8, .v (.int .u8 2)), (37, .v (.bool p1_))], [(4, ⟨146, [.v (.bool p0_), .v (.bool p1_), .v (.bool p2_), .v (.bool p3_), .v (.bool p4_), .v (.bool p5_)]⟩)]⟩ (by kernel_rfl) ?_
          refine X.split 37 rfl (fun h11 => ?_) (fun h11 => ?_)
          · -- slot 37: p1_ is True
            refine X.run 14 [2, 3] [] (.ex .ret) [] ⟨44, [(2, .v (.int .u8 0)), (3, .v (.bool false))], []⟩ (by kernel_rfl) ?_
            refine doneG (.inl rfl) [.int .u8 0, .bool false] [] (by kernel_rfl) rfl rfl (Ge.refl _ _) ?_
            -- end 3 (FTFTT)
            -- FTFTT
            refine ⟨?_, rfl⟩
            have hn_ : pr (bytesL z) 0 = none := by
              rw [hpr, bytesL_drop (by omega)]
              exact ref_stop (k := 1) (by rw [← (show (83 : Int) = byteAt z i.toNat by assumption)]; rfl) (by rw [← hP1]; assumption)
            unfold prs; rw [if_neg (by assumption), hn_]; rfl
          · -- slot 37: p1_ is False
            refine X.run 23 [0, 4, 5, 6] [4] (.ex .normal) [.loop J2, .blk 0, .seq (cA B42 [1, 1, 1, 1, 1])] ⟨44, [(0, .v (.string z)), (4, .own 4 0), (5, .v (.int .u8 (IntKind.u8.wrap (q + 2)))), (6, .v (.int .i64 (IntKind.i64.wrap (i + 1))))], [(4, ⟨146, [.v (.bool p0_), .v (.bool true), .v (.bool p2_), .v (.bool p3_), .v (.bool p4_), .v (.bool p5_)]⟩)]⟩ (by kernel_rfl) ?_
            -- again (FTFTF)
            have hx_ : fv (byteAt z i.toNat) = 2 ^ 1 := by rw [← (show (83 : Int) = byteAt z i.toNat by assumption)]; rfl
            have hp_ : hbit q 1 = false := by rw [← hP1]; assumption
            obtain ⟨g1_, g2_, g3_, g4_⟩ := ref_go (l := (bytesL z).drop (i.toNat + 1)) (k := 1) (by decide) hx_ hq0 hq1 hp_
            simp only [show ((2 : Int) ^ 1) = 2 by decide] at g1_ g2_ g3_ g4_
            have e1 : IntKind.u8.wrap (q + 2) = q + 2 := wu8 (by omega) (by omega)
            have e2 : IntKind.i64.wrap (i + 1) = i + 1 := wi64 (by omega) (by omega)
            have e3 : (i + 1).toNat = i.toNat + 1 := by omega
            exact X.again (hJ2 _ _ _ _ ⟨IntKind.u8.wrap (q + 2), IntKind.i64.wrap (i + 1), p0_, true, p2_, p3_, p4_, p5_, rfl, rfl, rfl, ⟨by omega, by omega, by rw [e1]; exact g2_, by rw [e1]; exact g3_, by rw [e1, g4_ 0 (by decide)]; rw [← hP0]; simp, by rw [e1, g4_ 1 (by decide)]; simp, by rw [e1, g4_ 2 (by decide)]; rw [← hP2]; simp, by rw [e1, g4_ 3 (by decide)]; rw [← hP3]; simp, by rw [e1, g4_ 4 (by decide)]; rw [← hP4]; simp, by rw [e1, g4_ 5 (by decide)]; rw [← hP5]; simp, by rw [hpr, bytesL_drop (by omega), g1_, e1, e2, e3]⟩, rfl⟩ (by rw [e2]; omega))
        · -- slot 27: 83 == (byteAt z ((i).toNat)) is False
          replace h10 : 83 ≠ (byteAt z ((i).toNat)) := by simpa using h10
          refine X.run 15 [0, 4, 5, 6, 7, 8, 9, 18, 19, 20, 21, 22, 23, 24, 25, 26, 27, 29, 30] [4] (.ex .normal) [.loop J8, .blk 2, .seq (cA B42 [1, 1, 1, 1, 0, 1, 0, 0, 1, 0, 0, 1, 1]), .blk 1, .seq (cA B42 [1, 1, 1, 1, 0, 1, 0, 0, 1, 1]), .loop J2, .blk 0, .seq (cA B42 [1, 1, 1, 1, 1])] ⟨44, [(0, .v (.string z)), (4, .own 4 0), (5, .v (.int .u8 q)), (6, .v (.int .i64 i)), (7, .v (.int .i64 (-1))), (8, .v (.int .u8 4)), (9, .v (.int .i64 2)), (18, .v (.int .i64 1)), (19, .v (.bool true)), (20, .v (.int .i64 1)), (21, .v (.int .i64 2)), (22, .v (.int .i64 1)), (23, .v (.int .u8 83)), (24, .v (.string z)), (25, .v (.int .i64 i)), (26, .v (.int .u8 (byteAt z ((i).toNat)))), (27, .v (.bool false)), (29, .v (.int .u8 2)), (30, .v (.int .u8 4))], [(4, ⟨146, [.v (.bool p0_), .v (.bool p1_), .v (.bool p2_), .v (.bool p3_), .v (.bool p4_), .v (.bool p5_)]⟩)]⟩ (by kernel_rfl) ?_
          refine X.again (hJ8 _ _ _ ?_)
          refine RX.succ fun J12 hJ12 => ?_
          refine X.run 14 [0, 4, 5, 6, 7, 8, 9, 18, 19, 20, 21, 22, 23, 24, 25, 26, 27, 29, 30] [4] (.code (cA B42 [1, 1, 1, 1, 0, 1, 0, 0, 1, 0, 0, 1, 0, 1, 0, 0, 1, 0, 0, 0, 0])) [.seq (cA B42 [1, 1, 1, 1, 0, 1, 0, 0, 1, 0, 0, 1, 0, 1, 0, 0, 1, 0, 0, 0, 1]), .seq (cA B42 [1, 1, 1, 1, 0, 1, 0, 0, 1, 0, 0, 1, 0, 1, 0, 0, 1, 0, 0, 1]), .blk 3, .seq (cA B42 [1, 1, 1, 1, 0, 1, 0, 0, 1, 0, 0, 1, 0, 1, 0, 0, 1, 1]), .loop J12, .blk 2, .seq (cA B42 [1, 1, 1, 1, 0, 1, 0, 0, 1, 0, 0, 1, 1]), .blk 1, .seq (cA B42 [1, 1, 1, 1, 0, 1, 0, 0, 1, 1]), .loop J2, .blk 0, .seq (cA B42 [1, 1, 1, 1, 1])] ⟨44, [(0, .v (.string z)), (4, .own 4 0), (5, .v (.int .u8 q)), (6, .v (.int .i64 i)), (7, .v (.int .i64 (-1))), (8, .v (.int .u8 4)), (9, .v (.int .i64 2)), (18, .v (.int .i64 2)), (19, .v (.bool true)), (20, .v (.int .i64 1)), (21, .v (.int .i64 2)), (22, .v (.int .i64 1)), (23, .v (.int .u8 83)), (24, .v (.string z)), (25, .v (.int .i64 i)), (26, .v (.int .u8 (byteAt z ((i).toNat)))), (27, .v (.bool false)), (29, .v (.int .u8 2)), (30, .v (.int .u8 4))], [(4, ⟨146, [.v (.bool p0_), .v (.bool p1_), .v (.bool p2_), .v (.bool p3_), .v (.bool p4_), .v (.bool p5_)]⟩)]⟩ (by kernel_rfl) ?_
          refine XD.open (id := 12) (arr := aA B42 [1, 1, 1, 1, 0, 1, 0, 0, 1, 0, 0, 1, 0, 1, 0, 0, 1, 0, 0, 0, 0]) 6 [] [] [] (by kernel_rfl) (by kernel_rfl) (by kernel_rfl) (by kernel_rfl) (by kernel_rfl) trivial (by simp) rfl (fun ρ0 => ?_)
          refine XD.take (i := 0) (l' := (lb 6 1)) (oA B42 [1, 1, 1, 1, 0, 1, 0, 0, 1, 0, 0, 1, 0, 1, 0, 0, 1, 0, 0, 0, 0] 0) (.v (.int .i64 2)) QOk.ctxG (by kernel_rfl) (by kernel_rfl) (by kernel_rfl) (by kernel_rfl) (by kernel_rfl) ?_
          refine XD.indexStr (i := 1) (l' := (lb 6 3)) (oA B42 [1, 1, 1, 1, 0, 1, 0, 0, 1, 0, 0, 1, 0, 1, 0, 0, 1, 0, 0, 0, 0] 1) (t := 9) (b := (⟨#[70, 83, 82, 80, 65, 85]⟩ : ByteArray)) (ki := .i64) (j := 2) (x := .const (.string (⟨#[70, 83, 82, 80, 65, 85]⟩ : ByteArray))) (ix := .tmp 22) QOk.ctxG (by kernel_rfl) (by kernel_rfl) (by kernel_rfl) (by kernel_rfl) (by kernel_rfl) (by kernel_rfl) (by decide) (by decide) (by kernel_rfl) (by kernel_rfl) ?_
          refine XD.known 23 (y := .v (.int .u8 82)) rfl (congrArg (fun z_ => AV.v (.int .u8 z_)) (by decide)) ?_
          refine XD.take (i := 2) (l' := (lb 6 7)) (oA B42 [1, 1, 1, 1, 0, 1, 0, 0, 1, 0, 0, 1, 0, 1, 0, 0, 1, 0, 0, 0, 0] 2) (.v (.string z)) QOk.ctxG (by kernel_rfl) (by kernel_rfl) (by kernel_rfl) (by kernel_rfl) (by kernel_rfl) ?_
          refine XD.take (i := 3) (l' := (lb 6 15)) (oA B42 [1, 1, 1, 1, 0, 1, 0, 0, 1, 0, 0, 1, 0, 1, 0, 0, 1, 0, 0, 0, 0] 3) (.v (.int .i64 i)) QOk.ctxG (by kernel_rfl) (by kernel_rfl) (by kernel_rfl) (by kernel_rfl) (by kernel_rfl) ?_
          refine XD.indexStr (i := 4) (l' := (lb 6 31)) (oA B42 [1, 1, 1, 1, 0, 1, 0, 0, 1, 0, 0, 1, 0, 1, 0, 0, 1, 0, 0, 0, 0] 4) (t := 9) (b := z) (ki := .i64) (j := i) (x := .tmp 24) (ix := .tmp 25) QOk.ctxG (by kernel_rfl) (by kernel_rfl) (by kernel_rfl) (by kernel_rfl) (by kernel_rfl) (by kernel_rfl) (by omega) (by omega) (by kernel_rfl) (by kernel_rfl) ?_
          refine XD.take (i := 5) (l' := (lb 6 63)) (oA B42 [1, 1, 1, 1, 0, 1, 0, 0, 1, 0, 0, 1, 0, 1, 0, 0, 1, 0, 0, 0, 0] 5) (.v (.bool (82 == (byteAt z ((i).toNat))))) QOk.ctxG (by kernel_rfl) (by kernel_rfl) (by kernel_rfl) (by kernel_rfl) (by kernel_rfl) ?_
          refine XD.done (by kernel_rfl) ?_
          refine X.run 1 [0, 4, 5, 6, 7, 8, 9, 18, 19, 20, 21, 22, 23, 24, 25, 26, 27, 29, 30] [4] (.code (cA B42 [1, 1, 1, 1, 0, 1, 0, 0, 1, 0, 0, 1, 0, 1, 0, 0, 1, 0, 0, 0, 1])) [.seq (cA B42 [1, 1, 1, 1, 0, 1, 0, 0, 1, 0, 0, 1, 0, 1, 0, 0, 1, 0, 0, 1]), .blk 3, .seq (cA B42 [1, 1, 1, 1, 0, 1, 0, 0, 1, 0, 0, 1, 0, 1, 0, 0, 1, 1]), .loop J12, .blk 2, .seq (cA B42 [1, 1, 1, 1, 0, 1, 0, 0, 1, 0, 0, 1, 1]), .blk 1, .seq (cA B42 [1, 1, 1, 1, 0, 1, 0, 0, 1, 1]), .loop J2, .blk 0, .seq (cA B42 [1, 1, 1, 1, 1])] ⟨44, [(0, .v (.string z)), (4, .own 4 0), (5, .v (.int .u8 q)), (6, .v (.int .i64 i)), (7, .v (.int .i64 (-1))), (8, .v (.int .u8 4)), (9, .v (.int .i64 2)), (18, .v (.int .i64 2)), (19, .v (.bool true)), (20, .v (.int .i64 1)), (21, .v (.int .i64 2)), (22, .v (.int .i64 2)), (23, .v (.int .u8 82)), (24, .v (.string z)), (25, .v (.int .i64 i)), (26, .v (.int .u8 (byteAt z ((i).toNat)))), (27, .v (.bool (82 == (byteAt z ((i).toNat))))), (29, .v (.int .u8 2)), (30, .v (.int .u8 4))], [(4, ⟨146, [.v (.bool p0_), .v (.bool p1_), .v (.bool p2_), .v (.bool p3_), .v (.bool p4_), .v (.bool p5_)]⟩)]⟩ (by kernel_rfl) ?_
          refine X.split 27 rfl (fun h14 => ?_) (fun h14 => ?_)
          · -- slot 27: 82 == (byteAt z ((i).toNat)) is True
            replace h14 : 82 = (byteAt z ((i).toNat)) := by simpa using h14
            refine X.run 26 [0, 4, 5, 6, 7, 8, 37] [4] (.code (cA B42 [1, 1, 1, 1, 0, 1, 0, 0, 1, 0, 0, 1, 1, 0, 1])) [.seq (cA B42 [1, 1, 1, 1, 0, 1, 0, 0, 1, 0, 0, 1, 1, 1]), .blk 1, .seq (cA B42 [1, 1, 1, 1, 0, 1, 0, 0, 1, 1]), .loop J2, .blk 0, .seq (cA B42 [1, 1, 1, 1, 1])] ⟨44, [(0, .v (.string z)), (4, .own 4 0), (5, .v (.int .u8 q)), (6, .v (.int .i64 i)), (7, .v (.int .i64 2)), (8, .v (.int .u8 4)), (37, .v (.bool p2_))], [(4, ⟨146, [.v (.bool p0_), .v (.bool p1_), .v (.bool p2_), .v (.bool p3_), .v (.bool p4_), .v (.bool p5_)]⟩)]⟩ (by kernel_rfl) ?_
            refine X.split 37 rfl (fun h15 => ?_) (fun h15 => ?_)
            · -- slot 37: p2_ is True
              refine X.run 14 [2, 3] [] (.ex .ret) [] ⟨44, [(2, .v (.int .u8 0)), (3, .v (.bool false))], []⟩ (by kernel_rfl) ?_
              refine doneG (.inl rfl) [.int .u8 0, .bool false] [] (by kernel_rfl) rfl rfl (Ge.refl _ _) ?_
              -- end 4 (FTFFTT)
              -- FTFFTT
              refine ⟨?_, rfl⟩
              have hn_ : pr (bytesL z) 0 = none := by
                rw [hpr, bytesL_drop (by omega)]
                exact ref_stop (k := 2) (by rw [← (show (82 : Int) = byteAt z i.toNat by assumption)]; rfl) (by rw [← hP2]; assumption)
              unfold prs; rw [if_neg (by assumption), hn_]; rfl
            · -- slot 37: p2_ is False
              refine X.run 23 [0, 4, 5, 6] [4] (.ex .normal) [.loop J2, .blk 0, .seq (cA B42 [1, 1, 1, 1, 1])] ⟨44, [(0, .v (.string z)), (4, .own 4 0), (5, .v (.int .u8 (IntKind.u8.wrap (q + 4)))), (6, .v (.int .i64 (IntKind.i64.wrap (i + 1))))], [(4, ⟨146, [.v (.bool p0_), .v (.bool p1_), .v (.bool true), .v (.bool p3_), .v (.bool p4_), .v (.bool p5_)]⟩)]⟩ (by kernel_rfl) ?_
              -- again (FTFFTF)
              have hx_ : fv (byteAt z i.toNat) = 2 ^ 2 := by rw [← (show (82 : Int) = byteAt z i.toNat by assumption)]; rfl
              have hp_ : hbit q 2 = false := by rw [← hP2]; assumption
              obtain ⟨g1_, g2_, g3_, g4_⟩ := ref_go (l := (bytesL z).drop (i.toNat + 1)) (k := 2) (by decide) hx_ hq0 hq1 hp_
              simp only [show ((2 : Int) ^ 2) = 4 by decide] at g1_ g2_ g3_ g4_
              have e1 : IntKind.u8.wrap (q + 4) = q + 4 := wu8 (by omega) (by omega)
              have e2 : IntKind.i64.wrap (i + 1) = i + 1 := wi64 (by omega) (by omega)
              have e3 : (i + 1).toNat = i.toNat + 1 := by omega
              exact X.again (hJ2 _ _ _ _ ⟨IntKind.u8.wrap (q + 4), IntKind.i64.wrap (i + 1), p0_, p1_, true, p3_, p4_, p5_, rfl, rfl, rfl, ⟨by omega, by omega, by rw [e1]; exact g2_, by rw [e1]; exact g3_, by rw [e1, g4_ 0 (by decide)]; rw [← hP0]; simp, by rw [e1, g4_ 1 (by decide)]; rw [← hP1]; simp, by rw [e1, g4_ 2 (by decide)]; simp, by rw [e1, g4_ 3 (by decide)]; rw [← hP3]; simp, by rw [e1, g4_ 4 (by decide)]; rw [← hP4]; simp, by rw [e1, g4_ 5 (by decide)]; rw [← hP5]; simp, by rw [hpr, bytesL_drop (by omega), g1_, e1, e2, e3]⟩, rfl⟩ (by rw [e2]; omega))
          · -- slot 27: 82 == (byteAt z ((i).toNat)) is False
            replace h14 : 82 ≠ (byteAt z ((i).toNat)) := by simpa using h14
            refine X.run 15 [0, 4, 5, 6, 7, 8, 9, 18, 19, 20, 21, 22, 23, 24, 25, 26, 27, 29, 30] [4] (.ex .normal) [.loop J12, .blk 2, .seq (cA B42 [1, 1, 1, 1, 0, 1, 0, 0, 1, 0, 0, 1, 1]), .blk 1, .seq (cA B42 [1, 1, 1, 1, 0, 1, 0, 0, 1, 1]), .loop J2, .blk 0, .seq (cA B42 [1, 1, 1, 1, 1])] ⟨44, [(0, .v (.string z)), (4, .own 4 0), (5, .v (.int .u8 q)), (6, .v (.int .i64 i)), (7, .v (.int .i64 (-1))), (8, .v (.int .u8 8)), (9, .v (.int .i64 3)), (18, .v (.int .i64 2)), (19, .v (.bool true)), (20, .v (.int .i64 2)), (21, .v (.int .i64 3)), (22, .v (.int .i64 2)), (23, .v (.int .u8 82)), (24, .v (.string z)), (25, .v (.int .i64 i)), (26, .v (.int .u8 (byteAt z ((i).toNat)))), (27, .v (.bool false)), (29, .v (.int .u8 4)), (30, .v (.int .u8 8))], [(4, ⟨146, [.v (.bool p0_), .v (.bool p1_), .v (.bool p2_), .v (.bool p3_), .v (.bool p4_), .v (.bool p5_)]⟩)]⟩ (by kernel_rfl) ?_
            refine X.again (hJ12 _ _ _ ?_)
            refine RX.succ fun J16 hJ16 => ?_
            refine X.run 14 [0, 4, 5, 6, 7, 8, 9, 18, 19, 20, 21, 22, 23, 24, 25, 26, 27, 29, 30] [4] (.code (cA B42 [1, 1, 1, 1, 0, 1, 0, 0, 1, 0, 0, 1, 0, 1, 0, 0, 1, 0, 0, 0, 0])) [.seq (cA B42 [1, 1, 1, 1, 0, 1, 0, 0, 1, 0, 0, 1, 0, 1, 0, 0, 1, 0, 0, 0, 1]), .seq (cA B42 [1, 1, 1, 1, 0, 1, 0, 0, 1, 0, 0, 1, 0, 1, 0, 0, 1, 0, 0, 1]), .blk 3, .seq (cA B42 [1, 1, 1, 1, 0, 1, 0, 0, 1, 0, 0, 1, 0, 1, 0, 0, 1, 1]), .loop J16, .blk 2, .seq (cA B42 [1, 1, 1, 1, 0, 1, 0, 0, 1, 0, 0, 1, 1]), .blk 1, .seq (cA B42 [1, 1, 1, 1, 0, 1, 0, 0, 1, 1]), .loop J2, .blk 0, .seq (cA B42 [1, 1, 1, 1, 1])] ⟨44, [(0, .v (.string z)), (4, .own 4 0), (5, .v (.int .u8 q)), (6, .v (.int .i64 i)), (7, .v (.int .i64 (-1))), (8, .v (.int .u8 8)), (9, .v (.int .i64 3)), (18, .v (.int .i64 3)), (19, .v (.bool true)), (20, .v (.int .i64 2)), (21, .v (.int .i64 3)), (22, .v (.int .i64 2)), (23, .v (.int .u8 82)), (24, .v (.string z)), (25, .v (.int .i64 i)), (26, .v (.int .u8 (byteAt z ((i).toNat)))), (27, .v (.bool false)), (29, .v (.int .u8 4)), (30, .v (.int .u8 8))], [(4, ⟨146, [.v (.bool p0_), .v (.bool p1_), .v (.bool p2_), .v (.bool p3_), .v (.bool p4_), .v (.bool p5_)]⟩)]⟩ (by kernel_rfl) ?_
            refine XD.open (id := 12) (arr := aA B42 [1, 1, 1, 1, 0, 1, 0, 0, 1, 0, 0, 1, 0, 1, 0, 0, 1, 0, 0, 0, 0]) 6 [] [] [] (by kernel_rfl) (by kernel_rfl) (by kernel_rfl) (by kernel_rfl) (by kernel_rfl) trivial (by simp) rfl (fun ρ0 => ?_)
            refine XD.take (i := 0) (l' := (lb 6 1)) (oA B42 [1, 1, 1, 1, 0, 1, 0, 0, 1, 0, 0, 1, 0, 1, 0, 0, 1, 0, 0, 0, 0] 0) (.v (.int .i64 3)) QOk.ctxG (by kernel_rfl) (by kernel_rfl) (by kernel_rfl) (by kernel_rfl) (by kernel_rfl) ?_
            refine XD.indexStr (i := 1) (l' := (lb 6 3)) (oA B42 [1, 1, 1, 1, 0, 1, 0, 0, 1, 0, 0, 1, 0, 1, 0, 0, 1, 0, 0, 0, 0] 1) (t := 9) (b := (⟨#[70, 83, 82, 80, 65, 85]⟩ : ByteArray)) (ki := .i64) (j := 3) (x := .const (.string (⟨#[70, 83, 82, 80, 65, 85]⟩ : ByteArray))) (ix := .tmp 22) QOk.ctxG (by kernel_rfl) (by kernel_rfl) (by kernel_rfl) (by kernel_rfl) (by kernel_rfl) (by kernel_rfl) (by decide) (by decide) (by kernel_rfl) (by kernel_rfl) ?_
            refine XD.known 23 (y := .v (.int .u8 80)) rfl (congrArg (fun z_ => AV.v (.int .u8 z_)) (by decide)) ?_
            refine XD.take (i := 2) (l' := (lb 6 7)) (oA B42 [1, 1, 1, 1, 0, 1, 0, 0, 1, 0, 0, 1, 0, 1, 0, 0, 1, 0, 0, 0, 0] 2) (.v (.string z)) QOk.ctxG (by kernel_rfl) (by kernel_rfl) (by kernel_rfl) (by kernel_rfl) (by kernel_rfl) ?_
            refine XD.take (i := 3) (l' := (lb 6 15)) (oA B42 [1, 1, 1, 1, 0, 1, 0, 0, 1, 0, 0, 1, 0, 1, 0, 0, 1, 0, 0, 0, 0] 3) (.v (.int .i64 i)) QOk.ctxG (by kernel_rfl) (by kernel_rfl) (by kernel_rfl) (by kernel_rfl) (by kernel_rfl) ?_
            refine XD.indexStr (i := 4) (l' := (lb 6 31)) (oA B42 [1, 1, 1, 1, 0, 1, 0, 0, 1, 0, 0, 1, 0, 1, 0, 0, 1, 0, 0, 0, 0] 4) (t := 9) (b := z) (ki := .i64) (j := i) (x := .tmp 24) (ix := .tmp 25) QOk.ctxG (by kernel_rfl) (by kernel_rfl) (by kernel_rfl) (by kernel_rfl) (by kernel_rfl) (by kernel_rfl) (by omega) (by omega) (by kernel_rfl) (by kernel_rfl) ?_
            refine XD.take (i := 5) (l' := (lb 6 63)) (oA B42 [1, 1, 1, 1, 0, 1, 0, 0, 1, 0, 0, 1, 0, 1, 0, 0, 1, 0, 0, 0, 0] 5) (.v (.bool (80 == (byteAt z ((i).toNat))))) QOk.ctxG (by kernel_rfl) (by kernel_rfl) (by kernel_rfl) (by kernel_rfl) (by kernel_rfl) ?_
            refine XD.done (by kernel_rfl) ?_
            refine X.run 1 [0, 4, 5, 6, 7, 8, 9, 18, 19, 20, 21, 22, 23, 24, 25, 26, 27, 29, 30] [4] (.code (cA B42 [1, 1, 1, 1, 0, 1, 0, 0, 1, 0, 0, 1, 0, 1, 0, 0, 1, 0, 0, 0, 1])) [.seq (cA B42 [1, 1, 1, 1, 0, 1, 0, 0, 1, 0, 0, 1, 0, 1, 0, 0, 1, 0, 0, 1]), .blk 3, .seq (cA B42 [1, 1, 1, 1, 0, 1, 0, 0, 1, 0, 0, 1, 0, 1, 0, 0, 1, 1]), .loop J16, .blk 2, .seq (cA B42 [1, 1, 1, 1, 0, 1, 0, 0, 1, 0, 0, 1, 1]), .blk 1, .seq (cA B42 [1, 1, 1, 1, 0, 1, 0, 0, 1, 1]), .loop J2, .blk 0, .seq (cA B42 [1, 1, 1, 1, 1])] ⟨44, [(0, .v (.string z)), (4, .own 4 0), (5, .v (.int .u8 q)), (6, .v (.int .i64 i)), (7, .v (.int .i64 (-1))), (8, .v (.int .u8 8)), (9, .v (.int .i64 3)), (18, .v (.int .i64 3)), (19, .v (.bool true)), (20, .v (.int .i64 2)), (21, .v (.int .i64 3)), (22, .v (.int .i64 3)), (23, .v (.int .u8 80)), (24, .v (.string z)), (25, .v (.int .i64 i)), (26, .v (.int .u8 (byteAt z ((i).toNat)))), (27, .v (.bool (80 == (byteAt z ((i).toNat))))), (29, .v (.int .u8 4)), (30, .v (.int .u8 8))], [(4, ⟨146, [.v (.bool p0_), .v (.bool p1_), .v (.bool p2_), .v (.bool p3_), .v (.bool p4_), .v (.bool p5_)]⟩)]⟩ (by kernel_rfl) ?_
            refine X.split 27 rfl (fun h18 => ?_) (fun h18 => ?_)
            · -- slot 27: 80 == (byteAt z ((i).toNat)) is True
              replace h18 : 80 = (byteAt z ((i).toNat)) := by simpa using h18
              refine X.run 26 [0, 4, 5, 6, 7, 8, 37] [4] (.code (cA B42 [1, 1, 1, 1, 0, 1, 0, 0, 1, 0, 0, 1, 1, 0, 1])) [.seq (cA B42 [1, 1, 1, 1, 0, 1, 0, 0, 1, 0, 0, 1, 1, 1]), .blk 1, .seq (cA B42 [1, 1, 1, 1, 0, 1, 0, 0, 1, 1]), .loop J2, .blk 0, .seq (cA B42 [1, 1, 1, 1, 1])] ⟨44, [(0, .v (.string z)), (4, .own 4 0), (5, .v (.int .u8 q)), (6, .v (.int .i64 i)), (7, .v (.int .i64 3)), (8, .v (.int .u8 8)), (37, .v (.bool p3_))], [(4, ⟨146, [.v (.bool p0_), .v (.bool p1_), .v (.bool p2_), .v (.bool p3_), .v (.bool p4_), .v (.bool p5_)]⟩)]⟩ (by kernel_rfl) ?_
              refine X.split 37 rfl (fun h19 => ?_) (fun h19 => ?_)
              · -- slot 37: p3_ is True
                refine X.run 14 [2, 3] [] (.ex .ret) [] ⟨44, [(2, .v (.int .u8 0)), (3, .v (.bool false))], []⟩ (by kernel_rfl) ?_
                refine doneG (.inl rfl) [.int .u8 0, .bool false] [] (by kernel_rfl) rfl rfl (Ge.refl _ _) ?_
                -- end 5 (FTFFFTT)
                -- FTFFFTT
                refine ⟨?_, rfl⟩
                have hn_ : pr (bytesL z) 0 = none := by
                  rw [hpr, bytesL_drop (by omega)]
                  exact ref_stop (k := 3) (by rw [← (show (80 : Int) = byteAt z i.toNat by assumption)]; rfl) (by rw [← hP3]; assumption)
                unfold prs; rw [if_neg (by assumption), hn_]; rfl
              · -- slot 37: p3_ is False
                refine X.run 23 [0, 4, 5, 6] [4] (.ex .normal) [.loop J2, .blk 0, .seq (cA B42 [1, 1, 1, 1, 1])] ⟨44, [(0, .v (.string z)), (4, .own 4 0), (5, .v (.int .u8 (IntKind.u8.wrap (q + 8)))), (6, .v (.int .i64 (IntKind.i64.wrap (i + 1))))], [(4, ⟨146, [.v (.bool p0_), .v (.bool p1_), .v (.bool p2_), .v (.bool true), .v (.bool p4_), .v (.bool p5_)]⟩)]⟩ (by kernel_rfl) ?_
                -- again (FTFFFTF)
                have hx_ : fv (byteAt z i.toNat) = 2 ^ 3 := by rw [← (show (80 : Int) = byteAt z i.toNat by assumption)]; rfl
                have hp_ : hbit q 3 = false := by rw [← hP3]; assumption
                obtain ⟨g1_, g2_, g3_, g4_⟩ := ref_go (l := (bytesL z).drop (i.toNat + 1)) (k := 3) (by decide) hx_ hq0 hq1 hp_
                simp only [show ((2 : Int) ^ 3) = 8 by decide] at g1_ g2_ g3_ g4_
                have e1 : IntKind.u8.wrap (q + 8) = q + 8 := wu8 (by omega) (by omega)
                have e2 : IntKind.i64.wrap (i + 1) = i + 1 := wi64 (by omega) (by omega)
                have e3 : (i + 1).toNat = i.toNat + 1 := by omega
                exact X.again (hJ2 _ _ _ _ ⟨IntKind.u8.wrap (q + 8), IntKind.i64.wrap (i + 1), p0_, p1_, p2_, true, p4_, p5_, rfl, rfl, rfl, ⟨by omega, by omega, by rw [e1]; exact g2_, by rw [e1]; exact g3_, by rw [e1, g4_ 0 (by decide)]; rw [← hP0]; simp, by rw [e1, g4_ 1 (by decide)]; rw [← hP1]; simp, by rw [e1, g4_ 2 (by decide)]; rw [← hP2]; simp, by rw [e1, g4_ 3 (by decide)]; simp, by rw [e1, g4_ 4 (by decide)]; rw [← hP4]; simp, by rw [e1, g4_ 5 (by decide)]; rw [← hP5]; simp, by rw [hpr, bytesL_drop (by omega), g1_, e1, e2, e3]⟩, rfl⟩ (by rw [e2]; omega))
            · -- slot 27: 80 == (byteAt z ((i).toNat)) is False
              replace h18 : 80 ≠ (byteAt z ((i).toNat)) := by simpa using h18
              refine X.run 15 [0, 4, 5, 6, 7, 8, 9, 18, 19, 20, 21, 22, 23, 24, 25, 26, 27, 29, 30] [4] (.ex .normal) [.loop J16, .blk 2, .seq (cA B42 [1, 1, 1, 1, 0, 1, 0, 0, 1, 0, 0, 1, 1]), .blk 1, .seq (cA B42 [1, 1, 1, 1, 0, 1, 0, 0, 1, 1]), .loop J2, .blk 0, .seq (cA B42 [1, 1, 1, 1, 1])] ⟨44, [(0, .v (.string z)), (4, .own 4 0), (5, .v (.int .u8 q)), (6, .v (.int .i64 i)), (7, .v (.int .i64 (-1))), (8, .v (.int .u8 16)), (9, .v (.int .i64 4)), (18, .v (.int .i64 3)), (19, .v (.bool true)), (20, .v (.int .i64 3)), (21, .v (.int .i64 4)), (22, .v (.int .i64 3)), (23, .v (.int .u8 80)), (24, .v (.string z)), (25, .v (.int .i64 i)), (26, .v (.int .u8 (byteAt z ((i).toNat)))), (27, .v (.bool false)), (29, .v (.int .u8 8)), (30, .v (.int .u8 16))], [(4, ⟨146, [.v (.bool p0_), .v (.bool p1_), .v (.bool p2_), .v (.bool p3_), .v (.bool p4_), .v (.bool p5_)]⟩)]⟩ (by kernel_rfl) ?_
              refine X.again (hJ16 _ _ _ ?_)
              refine RX.succ fun J20 hJ20 => ?_
              refine X.run 14 [0, 4, 5, 6, 7, 8, 9, 18, 19, 20, 21, 22, 23, 24, 25, 26, 27, 29, 30] [4] (.code (cA B42 [1, 1, 1, 1, 0, 1, 0, 0, 1, 0, 0, 1, 0, 1, 0, 0, 1, 0, 0, 0, 0])) [.seq (cA B42 [1, 1, 1, 1, 0, 1, 0, 0, 1, 0, 0, 1, 0, 1, 0, 0, 1, 0, 0, 0, 1]), .seq (cA B42 [1, 1, 1, 1, 0, 1, 0, 0, 1, 0, 0, 1, 0, 1, 0, 0, 1, 0, 0, 1]), .blk 3, .seq (cA B42 [1, 1, 1, 1, 0, 1, 0, 0, 1, 0, 0, 1, 0, 1, 0, 0, 1, 1]), .loop J20, .blk 2, .seq (cA B42 [1, 1, 1, 1, 0, 1, 0, 0, 1, 0, 0, 1, 1]), .blk 1, .seq (cA B42 [1, 1, 1, 1, 0, 1, 0, 0, 1, 1]), .loop J2, .blk 0, .seq (cA B42 [1, 1, 1, 1, 1])] ⟨44, [(0, .v (.string z)), (4, .own 4 0), (5, .v (.int .u8 q)), (6, .v (.int .i64 i)), (7, .v (.int .i64 (-1))), (8, .v (.int .u8 16)), (9, .v (.int .i64 4)), (18, .v (.int .i64 4)), (19, .v (.bool true)), (20, .v (.int .i64 3)), (21, .v (.int .i64 4)), (22, .v (.int .i64 3)), (23, .v (.int .u8 80)), (24, .v (.string z)), (25, .v (.int .i64 i)), (26, .v (.int .u8 (byteAt z ((i).toNat)))), (27, .v (.bool false)), (29, .v (.int .u8 8)), (30, .v (.int .u8 16))], [(4, ⟨146, [.v (.bool p0_), .v (.bool p1_), .v (.bool p2_), .v (.bool p3_), .v (.bool p4_), .v (.bool p5_)]⟩)]⟩ (by kernel_rfl) ?_
              refine XD.open (id := 12) (arr := aA B42 [1, 1, 1, 1, 0, 1, 0, 0, 1, 0, 0, 1, 0, 1, 0, 0, 1, 0, 0, 0, 0]) 6 [] [] [] (by kernel_rfl) (by kernel_rfl) (by kernel_rfl) (by kernel_rfl) (by kernel_rfl) trivial (by simp) rfl (fun ρ0 => ?_)
              refine XD.take (i := 0) (l' := (lb 6 1)) (oA B42 [1, 1, 1, 1, 0, 1, 0, 0, 1, 0, 0, 1, 0, 1, 0, 0, 1, 0, 0, 0, 0] 0) (.v (.int .i64 4)) QOk.ctxG (by kernel_rfl) (by kernel_rfl) (by kernel_rfl) (by kernel_rfl) (by kernel_rfl) ?_
              refine XD.indexStr (i := 1) (l' := (lb 6 3)) (oA B42 [1, 1, 1, 1, 0, 1, 0, 0, 1, 0, 0, 1, 0, 1, 0, 0, 1, 0, 0, 0, 0] 1) (t := 9) (b := (⟨#[70, 83, 82, 80, 65, 85]⟩ : ByteArray)) (ki := .i64) (j := 4) (x := .const (.string (⟨#[70, 83, 82, 80, 65, 85]⟩ : ByteArray))) (ix := .tmp 22) QOk.ctxG (by kernel_rfl) (by kernel_rfl) (by kernel_rfl) (by kernel_rfl) (by kernel_rfl) (by kernel_rfl) (by decide) (by decide) (by kernel_rfl) (by kernel_rfl) ?_
              refine XD.known 23 (y := .v (.int .u8 65)) rfl (congrArg (fun z_ => AV.v (.int .u8 z_)) (by decide)) ?_
              refine XD.take (i := 2) (l' := (lb 6 7)) (oA B42 [1, 1, 1, 1, 0, 1, 0, 0, 1, 0, 0, 1, 0, 1, 0, 0, 1, 0, 0, 0, 0] 2) (.v (.string z)) QOk.ctxG (by kernel_rfl) (by kernel_rfl) (by kernel_rfl) (by kernel_rfl) (by kernel_rfl) ?_
              refine XD.take (i := 3) (l' := (lb 6 15)) (oA B42 [1, 1, 1, 1, 0, 1, 0, 0, 1, 0, 0, 1, 0, 1, 0, 0, 1, 0, 0, 0, 0] 3) (.v (.int .i64 i)) QOk.ctxG (by kernel_rfl) (by kernel_rfl) (by kernel_rfl) (by kernel_rfl) (by kernel_rfl) ?_
              refine XD.indexStr (i := 4) (l' := (lb 6 31)) (oA B42 [1, 1, 1, 1, 0, 1, 0, 0, 1, 0, 0, 1, 0, 1, 0, 0, 1, 0, 0, 0, 0] 4) (t := 9) (b := z) (ki := .i64) (j := i) (x := .tmp 24) (ix := .tmp 25) QOk.ctxG (by kernel_rfl) (by kernel_rfl) (by kernel_rfl) (by kernel_rfl) (by kernel_rfl) (by kernel_rfl) (by omega) (by omega) (by kernel_rfl) (by kernel_rfl) ?_
              refine XD.take (i := 5) (l' := (lb 6 63)) (oA B42 [1, 1, 1, 1, 0, 1, 0, 0, 1, 0, 0, 1, 0, 1, 0, 0, 1, 0, 0, 0, 0] 5) (.v (.bool (65 == (byteAt z ((i).toNat))))) QOk.ctxG (by kernel_rfl) (by kernel_rfl) (by kernel_rfl) (by kernel_rfl) (by kernel_rfl) ?_
              refine XD.done (by kernel_rfl) ?_
              refine X.run 1 [0, 4, 5, 6, 7, 8, 9, 18, 19, 20, 21, 22, 23, 24, 25, 26, 27, 29, 30] [4] (.code (cA B42 [1, 1, 1, 1, 0, 1, 0, 0, 1, 0, 0, 1, 0, 1, 0, 0, 1, 0, 0, 0, 1])) [.seq (cA B42 [1, 1, 1, 1, 0, 1, 0, 0, 1, 0, 0, 1, 0, 1, 0, 0, 1, 0, 0, 1]), .blk 3, .seq (cA B42 [1, 1, 1, 1, 0, 1, 0, 0, 1, 0, 0, 1, 0, 1, 0, 0, 1, 1]), .loop J20, .blk 2, .seq (cA B42 [1, 1, 1, 1, 0, 1, 0, 0, 1, 0, 0, 1, 1]), .blk 1, .seq (cA B42 [1, 1, 1, 1, 0, 1, 0, 0, 1, 1]), .loop J2, .blk 0, .seq (cA B42 [1, 1, 1, 1, 1])] ⟨44, [(0, .v (.string z)), (4, .own 4 0), (5, .v (.int .u8 q)), (6, .v (.int .i64 i)), (7, .v (.int .i64 (-1))), (8, .v (.int .u8 16)), (9, .v (.int .i64 4)), (18, .v (.int .i64 4)), (19, .v (.bool true)), (20, .v (.int .i64 3)), (21, .v (.int .i64 4)), (22, .v (.int .i64 4)), (23, .v (.int .u8 65)), (24, .v (.string z)), (25, .v (.int .i64 i)), (26, .v (.int .u8 (byteAt z ((i).toNat)))), (27, .v (.bool (65 == (byteAt z ((i).toNat))))), (29, .v (.int .u8 8)), (30, .v (.int .u8 16))], [(4, ⟨146, [.v (.bool p0_), .v (.bool p1_), .v (.bool p2_), .v (.bool p3_), .v (.bool p4_), .v (.bool p5_)]⟩)]⟩ (by kernel_rfl) ?_
              refine X.split 27 rfl (fun h22 => ?_) (fun h22 => ?_)
              · -- slot 27: 65 == (byteAt z ((i).toNat)) is True
                replace h22 : 65 = (byteAt z ((i).toNat)) := by simpa using h22
                refine X.run 26 [0, 4, 5, 6, 7, 8, 37] [4] (.code (cA B42 [1, 1, 1, 1, 0, 1, 0, 0, 1, 0, 0, 1, 1, 0, 1])) [.seq (cA B42 [1, 1, 1, 1, 0, 1, 0, 0, 1, 0, 0, 1, 1, 1]), .blk 1, .seq (cA B42 [1, 1, 1, 1, 0, 1, 0, 0, 1, 1]), .loop J2, .blk 0, .seq (cA B42 [1, 1, 1, 1, 1])] ⟨44, [(0, .v (.string z)), (4, .own 4 0), (5, .v (.int .u8 q)), (6, .v (.int .i64 i)), (7, .v (.int .i64 4)), (8, .v (.int .u8 16)), (37, .v (.bool p4_))], [(4, ⟨146, [.v (.bool p0_), .v (.bool p1_), .v (.bool p2_), .v (.bool p3_), .v (.bool p4_), .v (.bool p5_)]⟩)]⟩ (by kernel_rfl) ?_
                refine X.split 37 rfl (fun h23 => ?_) (fun h23 => ?_)
                · -- slot 37: p4_ is True
                  refine X.run 14 [2, 3] [] (.ex .ret) [] ⟨44, [(2, .v (.int .u8 0)), (3, .v (.bool false))], []⟩ (by kernel_rfl) ?_
                  refine doneG (.inl rfl) [.int .u8 0, .bool false] [] (by kernel_rfl) rfl rfl (Ge.refl _ _) ?_
                  -- end 6 (FTFFFFTT)
                  -- FTFFFFTT
                  refine ⟨?_, rfl⟩
                  have hn_ : pr (bytesL z) 0 = none := by
                    rw [hpr, bytesL_drop (by omega)]
                    exact ref_stop (k := 4) (by rw [← (show (65 : Int) = byteAt z i.toNat by assumption)]; rfl) (by rw [← hP4]; assumption)
                  unfold prs; rw [if_neg (by assumption), hn_]; rfl
                · -- slot 37: p4_ is False
                  refine X.run 23 [0, 4, 5, 6] [4] (.ex .normal) [.loop J2, .blk 0, .seq (cA B42 [1, 1, 1, 1, 1])] ⟨44, [(0, .v (.string z)), (4, .own 4 0), (5, .v (.int .u8 (IntKind.u8.wrap (q + 16)))), (6, .v (.int .i64 (IntKind.i64.wrap (i + 1))))], [(4, ⟨146, [.v (.bool p0_), .v (.bool p1_), .v (.bool p2_), .v (.bool p3_), .v (.bool true), .v (.bool p5_)]⟩)]⟩ (by kernel_rfl) ?_
                  -- again (FTFFFFTF)
                  have hx_ : fv (byteAt z i.toNat) = 2 ^ 4 := by rw [← (show (65 : Int) = byteAt z i.toNat by assumption)]; rfl
                  have hp_ : hbit q 4 = false := by rw [← hP4]; assumption
                  obtain ⟨g1_, g2_, g3_, g4_⟩ := ref_go (l := (bytesL z).drop (i.toNat + 1)) (k := 4) (by decide) hx_ hq0 hq1 hp_
                  simp only [show ((2 : Int) ^ 4) = 16 by decide] at g1_ g2_ g3_ g4_
                  have e1 : IntKind.u8.wrap (q + 16) = q + 16 := wu8 (by omega) (by omega)
                  have e2 : IntKind.i64.wrap (i + 1) = i + 1 := wi64 (by omega) (by omega)
                  have e3 : (i + 1).toNat = i.toNat + 1 := by omega
                  exact X.again (hJ2 _ _ _ _ ⟨IntKind.u8.wrap (q + 16), IntKind.i64.wrap (i + 1), p0_, p1_, p2_, p3_, true, p5_, rfl, rfl, rfl, ⟨by omega, by omega, by rw [e1]; exact g2_, by rw [e1]; exact g3_, by rw [e1, g4_ 0 (by decide)]; rw [← hP0]; simp, by rw [e1, g4_ 1 (by decide)]; rw [← hP1]; simp, by rw [e1, g4_ 2 (by decide)]; rw [← hP2]; simp, by rw [e1, g4_ 3 (by decide)]; rw [← hP3]; simp, by rw [e1, g4_ 4 (by decide)]; simp, by rw [e1, g4_ 5 (by decide)]; rw [← hP5]; simp, by rw [hpr, bytesL_drop (by omega), g1_, e1, e2, e3]⟩, rfl⟩ (by rw [e2]; omega))
              · -- slot 27: 65 == (byteAt z ((i).toNat)) is False
                replace h22 : 65 ≠ (byteAt z ((i).toNat)) := by simpa using h22
                refine X.run 15 [0, 4, 5, 6, 7, 8, 9, 18, 19, 20, 21, 22, 23, 24, 25, 26, 27, 29, 30] [4] (.ex .normal) [.loop J20, .blk 2, .seq (cA B42 [1, 1, 1, 1, 0, 1, 0, 0, 1, 0, 0, 1, 1]), .blk 1, .seq (cA B42 [1, 1, 1, 1, 0, 1, 0, 0, 1, 1]), .loop J2, .blk 0, .seq (cA B42 [1, 1, 1, 1, 1])] ⟨44, [(0, .v (.string z)), (4, .own 4 0), (5, .v (.int .u8 q)), (6, .v (.int .i64 i)), (7, .v (.int .i64 (-1))), (8, .v (.int .u8 32)), (9, .v (.int .i64 5)), (18, .v (.int .i64 4)), (19, .v (.bool true)), (20, .v (.int .i64 4)), (21, .v (.int .i64 5)), (22, .v (.int .i64 4)), (23, .v (.int .u8 65)), (24, .v (.string z)), (25, .v (.int .i64 i)), (26, .v (.int .u8 (byteAt z ((i).toNat)))), (27, .v (.bool false)), (29, .v (.int .u8 16)), (30, .v (.int .u8 32))], [(4, ⟨146, [.v (.bool p0_), .v (.bool p1_), .v (.bool p2_), .v (.bool p3_), .v (.bool p4_), .v (.bool p5_)]⟩)]⟩ (by kernel_rfl) ?_
                refine X.again (hJ20 _ _ _ ?_)
                refine RX.succ fun J24 hJ24 => ?_
                refine X.run 14 [0, 4, 5, 6, 7, 8, 9, 18, 19, 20, 21, 22, 23, 24, 25, 26, 27, 29, 30] [4] (.code (cA B42 [1, 1, 1, 1, 0, 1, 0, 0, 1, 0, 0, 1, 0, 1, 0, 0, 1, 0, 0, 0, 0])) [.seq (cA B42 [1, 1, 1, 1, 0, 1, 0, 0, 1, 0, 0, 1, 0, 1, 0, 0, 1, 0, 0, 0, 1]), .seq (cA B42 [1, 1, 1, 1, 0, 1, 0, 0, 1, 0, 0, 1, 0, 1, 0, 0, 1, 0, 0, 1]), .blk 3, .seq (cA B42 [1, 1, 1, 1, 0, 1, 0, 0, 1, 0, 0, 1, 0, 1, 0, 0, 1, 1]), .loop J24, .blk 2, .seq (cA B42 [1, 1, 1, 1, 0, 1, 0, 0, 1, 0, 0, 1, 1]), .blk 1, .seq (cA B42 [1, 1, 1, 1, 0, 1, 0, 0, 1, 1]), .loop J2, .blk 0, .seq (cA B42 [1, 1, 1, 1, 1])] ⟨44, [(0, .v (.string z)), (4, .own 4 0), (5, .v (.int .u8 q)), (6, .v (.int .i64 i)), (7, .v (.int .i64 (-1))), (8, .v (.int .u8 32)), (9, .v (.int .i64 5)), (18, .v (.int .i64 5)), (19, .v (.bool true)), (20, .v (.int .i64 4)), (21, .v (.int .i64 5)), (22, .v (.int .i64 4)), (23, .v (.int .u8 65)), (24, .v (.string z)), (25, .v (.int .i64 i)), (26, .v (.int .u8 (byteAt z ((i).toNat)))), (27, .v (.bool false)), (29, .v (.int .u8 16)), (30, .v (.int .u8 32))], [(4, ⟨146, [.v (.bool p0_), .v (.bool p1_), .v (.bool p2_), .v (.bool p3_), .v (.bool p4_), .v (.bool p5_)]⟩)]⟩ (by kernel_rfl) ?_
                refine XD.open (id := 12) (arr := aA B42 [1, 1, 1, 1, 0, 1, 0, 0, 1, 0, 0, 1, 0, 1, 0, 0, 1, 0, 0, 0, 0]) 6 [] [] [] (by kernel_rfl) (by kernel_rfl) (by kernel_rfl) (by kernel_rfl) (by kernel_rfl) trivial (by simp) rfl (fun ρ0 => ?_)
                refine XD.take (i := 0) (l' := (lb 6 1)) (oA B42 [1, 1, 1, 1, 0, 1, 0, 0, 1, 0, 0, 1, 0, 1, 0, 0, 1, 0, 0, 0, 0] 0) (.v (.int .i64 5)) QOk.ctxG (by kernel_rfl) (by kernel_rfl) (by kernel_rfl) (by kernel_rfl) (by kernel_rfl) ?_
                refine XD.indexStr (i := 1) (l' := (lb 6 3)) (oA B42 [1, 1, 1, 1, 0, 1, 0, 0, 1, 0, 0, 1, 0, 1, 0, 0, 1, 0, 0, 0, 0] 1) (t := 9) (b := (⟨#[70, 83, 82, 80, 65, 85]⟩ : ByteArray)) (ki := .i64) (j := 5) (x := .const (.string (⟨#[70, 83, 82, 80, 65, 85]⟩ : ByteArray))) (ix := .tmp 22) QOk.ctxG (by kernel_rfl) (by kernel_rfl) (by kernel_rfl) (by kernel_rfl) (by kernel_rfl) (by kernel_rfl) (by decide) (by decide) (by kernel_rfl) (by kernel_rfl) ?_
                refine XD.known 23 (y := .v (.int .u8 85)) rfl (congrArg (fun z_ => AV.v (.int .u8 z_)) (by decide)) ?_
                refine XD.take (i := 2) (l' := (lb 6 7)) (oA B42 [1, 1, 1, 1, 0, 1, 0, 0, 1, 0, 0, 1, 0, 1, 0, 0, 1, 0, 0, 0, 0] 2) (.v (.string z)) QOk.ctxG (by kernel_rfl) (by kernel_rfl) (by kernel_rfl) (by kernel_rfl) (by kernel_rfl) ?_
                refine XD.take (i := 3) (l' := (lb 6 15)) (oA B42 [1, 1, 1, 1, 0, 1, 0, 0, 1, 0, 0, 1, 0, 1, 0, 0, 1, 0, 0, 0, 0] 3) (.v (.int .i64 i)) QOk.ctxG (by kernel_rfl) (by kernel_rfl) (by kernel_rfl) (by kernel_rfl) (by kernel_rfl) ?_
                refine XD.indexStr (i := 4) (l' := (lb 6 31)) (oA B42 [1, 1, 1, 1, 0, 1, 0, 0, 1, 0, 0, 1, 0, 1, 0, 0, 1, 0, 0, 0, 0] 4) (t := 9) (b := z) (ki := .i64) (j := i) (x := .tmp 24) (ix := .tmp 25) QOk.ctxG (by kernel_rfl) (by kernel_rfl) (by kernel_rfl) (by kernel_rfl) (by kernel_rfl) (by kernel_rfl) (by omega) (by omega) (by kernel_rfl) (by kernel_rfl) ?_
                refine XD.take (i := 5) (l' := (lb 6 63)) (oA B42 [1, 1, 1, 1, 0, 1, 0, 0, 1, 0, 0, 1, 0, 1, 0, 0, 1, 0, 0, 0, 0] 5) (.v (.bool (85 == (byteAt z ((i).toNat))))) QOk.ctxG (by kernel_rfl) (by kernel_rfl) (by kernel_rfl) (by kernel_rfl) (by kernel_rfl) ?_
                refine XD.done (by kernel_rfl) ?_
                refine X.run 1 [0, 4, 5, 6, 7, 8, 9, 18, 19, 20, 21, 22, 23, 24, 25, 26, 27, 29, 30] [4] (.code (cA B42 [1, 1, 1, 1, 0, 1, 0, 0, 1, 0, 0, 1, 0, 1, 0, 0, 1, 0, 0, 0, 1])) [.seq (cA B42 [1, 1, 1, 1, 0, 1, 0, 0, 1, 0, 0, 1, 0, 1, 0, 0, 1, 0, 0, 1]), .blk 3, .seq (cA B42 [1, 1, 1, 1, 0, 1, 0, 0, 1, 0, 0, 1, 0, 1, 0, 0, 1, 1]), .loop J24, .blk 2, .seq (cA B42 [1, 1, 1, 1, 0, 1, 0, 0, 1, 0, 0, 1, 1]), .blk 1, .seq (cA B42 [1, 1, 1, 1, 0, 1, 0, 0, 1, 1]), .loop J2, .blk 0, .seq (cA B42 [1, 1, 1, 1, 1])] ⟨44, [(0, .v (.string z)), (4, .own 4 0), (5, .v (.int .u8 q)), (6, .v (.int .i64 i)), (7, .v (.int .i64 (-1))), (8, .v (.int .u8 32)), (9, .v (.int .i64 5)), (18, .v (.int .i64 5)), (19, .v (.bool true)), (20, .v (.int .i64 4)), (21, .v (.int .i64 5)), (22, .v (.int .i64 5)), (23, .v (.int .u8 85)), (24, .v (.string z)), (25, .v (.int .i64 i)), (26, .v (.int .u8 (byteAt z ((i).toNat)))), (27, .v (.bool (85 == (byteAt z ((i).toNat))))), (29, .v (.int .u8 16)), (30, .v (.int .u8 32))], [(4, ⟨146, [.v (.bool p0_), .v (.bool p1_), .v (.bool p2_), .v (.bool p3_), .v (.bool p4_), .v (.bool p5_)]⟩)]⟩ (by kernel_rfl) ?_
                refine X.split 27 rfl (fun h26 => ?_) (fun h26 => ?_)
                · -- slot 27: 85 == (byteAt z ((i).toNat)) is True
                  replace h26 : 85 = (byteAt z ((i).toNat)) := by simpa using h26
                  refine X.run 26 [0, 4, 5, 6, 7, 8, 37] [4] (.code (cA B42 [1, 1, 1, 1, 0, 1, 0, 0, 1, 0, 0, 1, 1, 0, 1])) [.seq (cA B42 [1, 1, 1, 1, 0, 1, 0, 0, 1, 0, 0, 1, 1, 1]), .blk 1, .seq (cA B42 [1, 1, 1, 1, 0, 1, 0, 0, 1, 1]), .loop J2, .blk 0, .seq (cA B42 [1, 1, 1, 1, 1])] ⟨44, [(0, .v (.string z)), (4, .own 4 0), (5, .v (.int .u8 q)), (6, .v (.int .i64 i)), (7, .v (.int .i64 5)), (8, .v (.int .u8 32)), (37, .v (.bool p5_))], [(4, ⟨146, [.v (.bool p0_), .v (.bool p1_), .v (.bool p2_), .v (.bool p3_), .v (.bool p4_), .v (.bool p5_)]⟩)]⟩ (by kernel_rfl) ?_
                  refine X.split 37 rfl (fun h27 => ?_) (fun h27 => ?_)
                  · -- slot 37: p5_ is True
                    refine X.run 14 [2, 3] [] (.ex .ret) [] ⟨44, [(2, .v (.int .u8 0)), (3, .v (.bool false))], []⟩ (by kernel_rfl) ?_
                    refine doneG (.inl rfl) [.int .u8 0, .bool false] [] (by kernel_rfl) rfl rfl (Ge.refl _ _) ?_
                    -- end 7 (FTFFFFFTT)
                    -- FTFFFFFTT
                    refine ⟨?_, rfl⟩
                    have hn_ : pr (bytesL z) 0 = none := by
                      rw [hpr, bytesL_drop (by omega)]
                      exact ref_stop (k := 5) (by rw [← (show (85 : Int) = byteAt z i.toNat by assumption)]; rfl) (by rw [← hP5]; assumption)
                    unfold prs; rw [if_neg (by assumption), hn_]; rfl
                  · -- slot 37: p5_ is False
                    refine X.run 23 [0, 4, 5, 6] [4] (.ex .normal) [.loop J2, .blk 0, .seq (cA B42 [1, 1, 1, 1, 1])] ⟨44, [(0, .v (.string z)), (4, .own 4 0), (5, .v (.int .u8 (IntKind.u8.wrap (q + 32)))), (6, .v (.int .i64 (IntKind.i64.wrap (i + 1))))], [(4, ⟨146, [.v (.bool p0_), .v (.bool p1_), .v (.bool p2_), .v (.bool p3_), .v (.bool p4_), .v (.bool true)]⟩)]⟩ (by kernel_rfl) ?_
                    -- again (FTFFFFFTF)
                    have hx_ : fv (byteAt z i.toNat) = 2 ^ 5 := by rw [← (show (85 : Int) = byteAt z i.toNat by assumption)]; rfl
                    have hp_ : hbit q 5 = false := by rw [← hP5]; assumption
                    obtain ⟨g1_, g2_, g3_, g4_⟩ := ref_go (l := (bytesL z).drop (i.toNat + 1)) (k := 5) (by decide) hx_ hq0 hq1 hp_
                    simp only [show ((2 : Int) ^ 5) = 32 by decide] at g1_ g2_ g3_ g4_
                    have e1 : IntKind.u8.wrap (q + 32) = q + 32 := wu8 (by omega) (by omega)
                    have e2 : IntKind.i64.wrap (i + 1) = i + 1 := wi64 (by omega) (by omega)
                    have e3 : (i + 1).toNat = i.toNat + 1 := by omega
                    exact X.again (hJ2 _ _ _ _ ⟨IntKind.u8.wrap (q + 32), IntKind.i64.wrap (i + 1), p0_, p1_, p2_, p3_, p4_, true, rfl, rfl, rfl, ⟨by omega, by omega, by rw [e1]; exact g2_, by rw [e1]; exact g3_, by rw [e1, g4_ 0 (by decide)]; rw [← hP0]; simp, by rw [e1, g4_ 1 (by decide)]; rw [← hP1]; simp, by rw [e1, g4_ 2 (by decide)]; rw [← hP2]; simp, by rw [e1, g4_ 3 (by decide)]; rw [← hP3]; simp, by rw [e1, g4_ 4 (by decide)]; rw [← hP4]; simp, by rw [e1, g4_ 5 (by decide)]; simp, by rw [hpr, bytesL_drop (by omega), g1_, e1, e2, e3]⟩, rfl⟩ (by rw [e2]; omega))
                · -- slot 27: 85 == (byteAt z ((i).toNat)) is False
                  replace h26 : 85 ≠ (byteAt z ((i).toNat)) := by simpa using h26
                  refine X.run 15 [0, 4, 5, 6, 7, 8, 9, 18, 19, 20, 21, 22, 23, 24, 25, 26, 27, 29, 30] [4] (.ex .normal) [.loop J24, .blk 2, .seq (cA B42 [1, 1, 1, 1, 0, 1, 0, 0, 1, 0, 0, 1, 1]), .blk 1, .seq (cA B42 [1, 1, 1, 1, 0, 1, 0, 0, 1, 1]), .loop J2, .blk 0, .seq (cA B42 [1, 1, 1, 1, 1])] ⟨44, [(0, .v (.string z)), (4, .own 4 0), (5, .v (.int .u8 q)), (6, .v (.int .i64 i)), (7, .v (.int .i64 (-1))), (8, .v (.int .u8 64)), (9, .v (.int .i64 6)), (18, .v (.int .i64 5)), (19, .v (.bool true)), (20, .v (.int .i64 5)), (21, .v (.int .i64 6)), (22, .v (.int .i64 5)), (23, .v (.int .u8 85)), (24, .v (.string z)), (25, .v (.int .i64 i)), (26, .v (.int .u8 (byteAt z ((i).toNat)))), (27, .v (.bool false)), (29, .v (.int .u8 32)), (30, .v (.int .u8 64))], [(4, ⟨146, [.v (.bool p0_), .v (.bool p1_), .v (.bool p2_), .v (.bool p3_), .v (.bool p4_), .v (.bool p5_)]⟩)]⟩ (by kernel_rfl) ?_
                  refine X.again (hJ24 _ _ _ ?_)
                  refine RX.succ fun J28 hJ28 => ?_
                  refine X.run 39 [2, 3] [] (.ex .ret) [] ⟨44, [(2, .v (.int .u8 0)), (3, .v (.bool false))], []⟩ (by kernel_rfl) ?_
                  refine doneG (.inl rfl) [.int .u8 0, .bool false] [] (by kernel_rfl) rfl rfl (Ge.refl _ _) ?_
                  -- end 8 (FTFFFFFF)
                  -- FTFFFFFF
                  refine ⟨?_, rfl⟩
                  have hn_ : pr (bytesL z) 0 = none := by
                    rw [hpr, bytesL_drop (by omega)]
                    exact pr_stop (.inl (by unfold fv; rw [if_neg (by omega), if_neg (by omega), if_neg (by omega), if_neg (by omega), if_neg (by omega), if_neg (by omega)]))
                  unfold prs; rw [if_neg (by assumption), hn_]; rfl
    · -- slot 15: decide (i < (z.size : Int)) is False
      replace h3 : ¬ (i < (z.size : Int)) := of_decide_eq_false h3
      refine X.run 14 [2, 3] [] (.ex .ret) [] ⟨44, [(2, .v (.int .u8 q)), (3, .v (.bool true))], []⟩ (by kernel_rfl) ?_
      refine doneG (.inl rfl) [.int .u8 q, .bool true] [] (by kernel_rfl) rfl rfl (Ge.refl _ _) ?_
      -- end 9 (FF)
      refine ⟨?_, rfl⟩
      have hn_ : pr (bytesL z) 0 = some q := by
        rw [hpr, List.drop_of_length_le (by rw [bytesL_len]; omega)]; rfl
      unfold prs; rw [if_neg (by assumption), hn_]; rfl
end Go.Proofs.YtjgpdbkkpomhjaaX
