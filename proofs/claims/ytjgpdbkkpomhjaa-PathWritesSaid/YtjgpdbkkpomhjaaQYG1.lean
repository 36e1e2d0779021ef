/- A part of a law's proof. Conditions: none. -/
import Derived.Test.YtjgpdbkkpomhjaaProg
import Derived.KernelRfl
import Derived.Test.YtjgpdbkkpomhjaaQYX
import Derived.Test.YtjgpdbkkpomhjaaQYI1
import Derived.Test.YtjgpdbkkpomhjaaQYT
namespace Go.Proofs.YtjgpdbkkpomhjaaX
open Go.RowKit
open Go.Proofs.YtjgpdbkkpomhjaaW.PrintLast
set_option linter.unusedVariables false
set_option linter.unusedSimpArgs false
set_option maxRecDepth 100000
set_option maxHeartbeats 1000000 in
theorem Concat_ok (A : Option Addr) (c : Nat) (ps : List (List Int)) (G : Mem) (hps : rowAt (D.slice (D.int .u8)) G A ps) (hn : ps.length ≤ 1000) (hT : flen ps ≤ 1000000000) : CallsG Try.prog 105 [.slice A ps.length c] G (fun _ v rows => ∃ A' c', v = .slice A' ps.flatten.length c' ∧ rows = [⟨5, 1, .slice A' ps.flatten.length c', ps.flatten.length, ps.flatten.map (Value.int .u8)⟩]) := by
 refine CallsG.enter Try.func105 rfl rfl ?_
 intro w
 refine Rn 19 (Qc B105 58) [.blk 0, Qs B105 15] _ (X.loopJ (fun m s R' G' => ∃ (q i : Int), s = ⟨36, [(0, VL A ps.length c), (2, VL none 0 0), (3, I6 q), (9, VL A ps.length c), (10, I6 (ps.length : Int)), (11, I6 i)], []⟩ ∧ R' = [] ∧ G = G' ∧ (0 ≤ i ∧ i ≤ (ps.length : Int) ∧ q = ((ps.take i.toNat).flatten.length : Int)) ∧ m = ((ps.length : Int) - i).toNat) _ ⟨0, 0, rfl, rfl, rfl, ⟨by omega, by omega, rfl⟩, rfl⟩ ?_)
 rintro m1 s1 R1 G1 ⟨q, i, rfl, rfl, rfl, hF1, rfl⟩ J1 hJ1
 obtain ⟨hi0, hi1, hq⟩ := hF1
 have hfl_ := flen_le (ps := ps) (i.toNat + 1)
 have hfk_ := flen_le (ps := ps) i.toNat
 refine Ra 6 (Qc B105 466) 0 [Qs B105 467] [(12, VB (decide (i < (ps.length : Int))))] ?_
 refine Sd 12 rfl ?_ ?_ <;> intro h2
 ·
  rw [flat_take (by omega), List.length_append] at hfl_
  refine Ra 7 (Qo B105 3736 0) 1 [Qs B105 3737, .blk 1, Qs B105 935] [] ?_
  refine Ix 121 22 1 A ps.length c .i64 i (.tmp 9) (.tmp 11) (by omega) (by omega) (fun _ _ => rowAt.so hps (by omega)) ?_
  obtain ⟨A5, c5, at5, le5, mx5, hr5⟩ := At.slice [] hps ((i).toNat) (by omega)
  simp only [maxLen] at mx5
  refine Ld 22 A ((i).toNat * 1) (.tmp 13) (.slice A5 ((ps.getD i.toNat []).length) c5) [.slice A5 ((ps.getD i.toNat []).length) c5] at5 ?_
  refine Ra 9 (Qo B105 7474 4) 1 [Qs B105 7475] [(18, I6 (IntKind.i64.wrap (q + (((ps.getD i.toNat []).length : Nat) : Int))))] ?_
  refine Kn 18 .i64 (q + (((ps.getD i.toNat []).length : Nat) : Int)) rfl (wi64 (by omega) (by omega)) ?_
  refine Ra 9 (Qc B105 14951) 1 [] [(3, I6 (q + (((ps.getD i.toNat []).length : Nat) : Int))), (20, VB (decide (q + (((ps.getD i.toNat []).length : Nat) : Int) < 0)))] ?_
  refine X.isFalse 20 rfl (decide_eq_false (by omega)) ?_
  have e1 : IntKind.i64.wrap (i + 1) = i + 1 := wi64 (by omega) (by omega)
  have e0 : (i + 1).toNat = i.toNat + 1 := by omega
  exact Rn 8 (.ex .normal) [.loop J1, .blk 0, Qs B105 15] _ (X.again (hJ1 _ _ _ _ ⟨q + (((ps.getD i.toNat []).length : Nat) : Int), IntKind.i64.wrap (i + 1), rfl, rfl, rfl, ⟨by omega, by omega, by rw [e1, e0, flat_take (by omega), List.length_append]; push_cast; omega⟩, rfl⟩ (by rw [e1]; omega)))
 ·
  refine Rc 9 (Qo B105 30 1) 4 [Qs B105 31] [(23, I6 q)] [3, 11] ?_
  refine X.inline (f := 152) (l := [VL none 0 0, I6 q]) (fn := Try.f152) (c := B152) (by kernel_rfl) (by kernel_rfl) Try.func152 (by kernel_rfl) ?_
  intro Q6 M6 hM6 hQ6 fin6
  refine Ra 12 (Qc B152 13) 0 [Qs B152 7] [(4, VL none 0 0), (6, VB (decide (q < 0)))] ?_
  refine X.isFalse 6 rfl (decide_eq_false (by omega)) ?_
  refine Ra 13 (Qo B152 28 7) 1 [Qs B152 29, Qs B152 15] [(14, I6 (IntKind.i64.wrap (q - 0)))] ?_
  refine Kn 14 .i64 (q - 0) rfl (wi64 (by omega) (by omega)) ?_
  refine Ra 9 (Qc B152 59) 1 [] [(1, I6 (q - 0)), (16, VB (decide (q - 0 > 0)))] ?_
  refine Sd 16 rfl ?_ ?_ <;> intro h7
  ·
   refine Ra 5 (Qo B152 118 3) 0 [] [(17, VL none 0 0), (19, I6 0)] ?_
   have hlo8 : 0 ≤ 0 := by omega
   have hhi8 : 0 ≤ 0 := by omega
   refine X.cut (t := 22) (e := 5) (sz := 1) (n := 0) (c := 0) (A := none) (x := .tmp 17) (l := none) (h := (some (.tmp 19))) (lv := none) (hv := (some (N6 0))) 0 0 (by kernel_rfl) (by kernel_rfl) (by kernel_rfl) (by kernel_rfl) (by kernel_rfl) (by kernel_rfl) (by kernel_rfl) (rfl) (⟨_, _, rfl, by omega, rfl⟩) hlo8 (Nat.le_trans hhi8 (by omega)) ?_
   refine X.known 20 (y := VL none 0 0) rfl (by rw [cutA_zero] <;> rfl) ?_
   refine Rc 1 (Qo B152 118 5) 0 [] [(20, VL none 0 0), (21, I6 (q - 0))] [1] ?_
   refine X.growNil (t := 22) (ti := 3) (e := 5) (bytes := 1) (m := q - 0) (x := .tmp 20) (y := .tmp 21) 22 (N8 0) (by kernel_rfl) (by kernel_rfl) (by kernel_rfl) (by kernel_rfl) (by kernel_rfl) (by kernel_rfl) (by kernel_rfl) (by kernel_rfl) (by omega) (by omega) (by omega) ?_
   intro A9 c9 hc9
   refine Ra 2 (Qo B152 118 8) 0 [] [(22, VL A9 ((q - 0).toNat) c9), (24, I6 0)] ?_
   have hlo10 : 0 ≤ 0 := by omega
   have hhi10 : 0 ≤ (q - 0).toNat := by omega
   refine X.cut (t := 22) (e := 5) (sz := 1) (n := (q - 0).toNat) (c := c9) (A := A9) (x := .tmp 22) (l := none) (h := (some (.tmp 24))) (lv := none) (hv := (some (N6 0))) 0 0 (by kernel_rfl) (by kernel_rfl) (by kernel_rfl) (by kernel_rfl) (by kernel_rfl) (by kernel_rfl) (by kernel_rfl) (rfl) (⟨_, _, rfl, by omega, rfl⟩) hlo10 (Nat.le_trans hhi10 (by omega)) ?_
   refine X.known 25 (y := VL A9 0 c9) rfl (by rw [cutA_zero] <;> rfl) ?_
   refine Rn 10 (.ex .ret) [] ⟨27, [(4, VL A9 0 c9)], []⟩ ?_
   refine fin6 _ _ _ _ [.slice A9 0 c9] [] (.inl rfl) (by kernel_rfl) (by kernel_rfl) ?_
   refine Tr [22] ?_
   refine Rn 12 (Qc B105 250) [.blk 2, Qs B105 63] _ (X.loopJ (fun m s R' G' => ∃ (B_ : Option Addr) (c_ n_ : Nat) (r_ : List Int) (i : Int), s = ⟨36, [(2, VL none 0 0), (6, VL B_ n_ c_), (25, VL A ps.length c), (26, I6 (ps.length : Int)), (27, I6 i)], []⟩ ∧ R' = [(22, RR 5 1 B_ n_ c_ ((r_).map (Value.int .u8)))] ∧ G = G' ∧ (0 ≤ i ∧ i ≤ (ps.length : Int) ∧ r_ = (ps.take i.toNat).flatten ∧ n_ = r_.length) ∧ m = ((ps.length : Int) - i).toNat) _ ⟨A9, c9, 0, [], 0, rfl, rfl, rfl, ⟨by omega, by omega, rfl, rfl⟩, rfl⟩ ?_)
   rintro m11 s11 R11 G11 ⟨B_, c_, n_, r_, i, rfl, rfl, rfl, hF11, rfl⟩ J11 hJ11
   obtain ⟨hi0, hi1, hr_, hn_⟩ := hF11
   have hfl_ := flen_le (ps := ps) (i.toNat + 1)
   have hfk_ := flen_le (ps := ps) i.toNat
   rw [← hr_] at hfk_
   refine Ra 6 (Qc B105 2002) 0 [Qs B105 2003] [(28, VB (decide (i < (ps.length : Int))))] ?_
   refine Sd 28 rfl ?_ ?_ <;> intro h12
   ·
    rw [flat_take (by omega), ← hr_, List.length_append] at hfl_
    refine Ra 7 (Qo B105 16024 0) 1 [Qs B105 16025, .blk 3, Qs B105 4007] [] ?_
    refine Ix 121 22 1 A ps.length c .i64 i (.tmp 25) (.tmp 27) (by omega) (by omega) (fun _ _ => rowAt.so hps (by omega)) ?_
    obtain ⟨A15, c15, at15, le15, mx15, hr15⟩ := At.slice [(22, ⟨5, 1, .slice B_ n_ c_, n_, (r_).map (Value.int .u8)⟩)] hps ((i).toNat) (by omega)
    simp only [maxLen] at mx15
    refine Ld 22 A ((i).toNat * 1) (.tmp 29) (.slice A15 ((ps.getD i.toNat []).length) c15) [.slice A15 ((ps.getD i.toNat []).length) c15] at15 ?_
    refine Ra 6 (Qo B105 16025 2) 1 [] [(31, VL B_ n_ c_), (32, VL A15 ((ps.getD i.toNat []).length) c15)] ?_
    refine Aw 22 _ 22 1 (N8 0) (.tmp 31) (.tmp 32) n_ c_ ((ps.getD i.toNat []).length) c15 B_ A15 ((ps.getD i.toNat []).map (Value.int .u8)) (.inl rfl) (by simp) (at_ints [(22, RR 5 1 B_ n_ c_ ((r_).map (Value.int .u8)))] hr15) (fun _ _ e => rowAt.none hr15 e) ones_ints (by omega) ?_
    intro A16 c16 hc16
    refine Tc [] (cs' := (r_ ++ (ps.getD i.toNat [])).map (Value.int .u8)) (by simp) ?_
    have e1 : IntKind.i64.wrap (i + 1) = i + 1 := wi64 (by omega) (by omega)
    have e0 : (i + 1).toNat = i.toNat + 1 := by omega
    exact Rn 8 (.ex .normal) [.loop J11, .blk 2, Qs B105 63] _ (X.again (hJ11 _ _ _ _ ⟨A16, c16, n_ + (ps.getD i.toNat []).length, r_ ++ (ps.getD i.toNat []), IntKind.i64.wrap (i + 1), rfl, rfl, rfl, ⟨by omega, by omega, by rw [e1, e0, flat_take (by omega), hr_], by rw [List.length_append]; omega⟩, rfl⟩ (by rw [e1]; omega)))
   ·
    refine Rn 13 (.ex .ret) [] ⟨36, [(2, VL B_ n_ c_)], []⟩ ?_
    refine Dg (.inl rfl) [.slice B_ n_ c_] [22] rfl (Ge.refl _ _) ?_
    have ha_ : (ps.take i.toNat).flatten = ps.flatten := by rw [List.take_of_length_le (by omega)]
    rw [ha_] at hr_
    subst hr_ hn_
    exact ⟨B_, c_, rfl, rfl⟩
  ·
   refine Rn 10 (.ex .ret) [] ⟨27, [(4, VL none 0 0)], []⟩ ?_
   refine fin6 _ _ _ _ [.slice none 0 0] [] (.inl rfl) (by kernel_rfl) (by kernel_rfl) ?_
   refine Rn 12 (Qc B105 250) [.blk 2, Qs B105 63] ⟨36, [(2, VL none 0 0), (6, VL none 0 0), (25, VL A ps.length c), (26, I6 (ps.length : Int)), (27, I6 0)], []⟩ ?_
   refine X.nilRow 300 5 1 rfl ?_
   refine X.loopJ (fun m s R' G' => ∃ (B_ : Option Addr) (c_ n_ : Nat) (r_ : List Int) (i : Int), s = ⟨36, [(2, VL none 0 0), (6, VL B_ n_ c_), (25, VL A ps.length c), (26, I6 (ps.length : Int)), (27, I6 i)], []⟩ ∧ R' = [(300, RR 5 1 B_ n_ c_ ((r_).map (Value.int .u8)))] ∧ G = G' ∧ (0 ≤ i ∧ i ≤ (ps.length : Int) ∧ r_ = (ps.take i.toNat).flatten ∧ n_ = r_.length) ∧ m = ((ps.length : Int) - i).toNat) _ ⟨none, 0, 0, [], 0, rfl, rfl, rfl, ⟨by omega, by omega, rfl, rfl⟩, rfl⟩ ?_
   rintro m17 s17 R17 G17 ⟨B_, c_, n_, r_, i, rfl, rfl, rfl, hF17, rfl⟩ J17 hJ17
   obtain ⟨hi0, hi1, hr_, hn_⟩ := hF17
   have hfl_ := flen_le (ps := ps) (i.toNat + 1)
   have hfk_ := flen_le (ps := ps) i.toNat
   rw [← hr_] at hfk_
   refine Ra 6 (Qc B105 2002) 0 [Qs B105 2003] [(28, VB (decide (i < (ps.length : Int))))] ?_
   refine Sd 28 rfl ?_ ?_ <;> intro h18
   ·
    rw [flat_take (by omega), ← hr_, List.length_append] at hfl_
    refine Ra 7 (Qo B105 16024 0) 1 [Qs B105 16025, .blk 3, Qs B105 4007] [] ?_
    refine Ix 121 22 1 A ps.length c .i64 i (.tmp 25) (.tmp 27) (by omega) (by omega) (fun _ _ => rowAt.so hps (by omega)) ?_
    obtain ⟨A21, c21, at21, le21, mx21, hr21⟩ := At.slice [(300, ⟨5, 1, .slice B_ n_ c_, n_, (r_).map (Value.int .u8)⟩)] hps ((i).toNat) (by omega)
    simp only [maxLen] at mx21
    refine Ld 22 A ((i).toNat * 1) (.tmp 29) (.slice A21 ((ps.getD i.toNat []).length) c21) [.slice A21 ((ps.getD i.toNat []).length) c21] at21 ?_
    refine Ra 6 (Qo B105 16025 2) 1 [] [(31, VL B_ n_ c_), (32, VL A21 ((ps.getD i.toNat []).length) c21)] ?_
    refine Aw 300 _ 22 1 (N8 0) (.tmp 31) (.tmp 32) n_ c_ ((ps.getD i.toNat []).length) c21 B_ A21 ((ps.getD i.toNat []).map (Value.int .u8)) (.inl rfl) (by simp) (at_ints [(300, RR 5 1 B_ n_ c_ ((r_).map (Value.int .u8)))] hr21) (fun _ _ e => rowAt.none hr21 e) ones_ints (by omega) ?_
    intro A22 c22 hc22
    refine Tc [] (cs' := (r_ ++ (ps.getD i.toNat [])).map (Value.int .u8)) (by simp) ?_
    have e1 : IntKind.i64.wrap (i + 1) = i + 1 := wi64 (by omega) (by omega)
    have e0 : (i + 1).toNat = i.toNat + 1 := by omega
    exact Rn 8 (.ex .normal) [.loop J17, .blk 2, Qs B105 63] _ (X.again (hJ17 _ _ _ _ ⟨A22, c22, n_ + (ps.getD i.toNat []).length, r_ ++ (ps.getD i.toNat []), IntKind.i64.wrap (i + 1), rfl, rfl, rfl, ⟨by omega, by omega, by rw [e1, e0, flat_take (by omega), hr_], by rw [List.length_append]; omega⟩, rfl⟩ (by rw [e1]; omega)))
   ·
    refine Rn 13 (.ex .ret) [] ⟨36, [(2, VL B_ n_ c_)], []⟩ ?_
    refine Dg (.inl rfl) [.slice B_ n_ c_] [300] rfl (Ge.refl _ _) ?_
    have ha_ : (ps.take i.toNat).flatten = ps.flatten := by rw [List.take_of_length_le (by omega)]
    rw [ha_] at hr_
    subst hr_ hn_
    exact ⟨B_, c_, rfl, rfl⟩
end Go.Proofs.YtjgpdbkkpomhjaaX
