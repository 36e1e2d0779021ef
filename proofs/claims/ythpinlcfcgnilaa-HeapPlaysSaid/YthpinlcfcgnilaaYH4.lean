/- leatref06.Drop. Walked; printed by a small program of this session. Conditions: none. -/
import Derived.Test.YthpinlcfcgnilaaProg
import Derived.KernelRfl
import Derived.Test.YthpinlcfcgnilaaYH3
namespace Go.Proofs.YthpinlcfcgnilaaX
open Go.RowKit
open Go.Proofs.YthpinlcfcgnilaaW.PrintLast
set_option linter.unusedVariables false
set_option linter.unusedSimpArgs false
set_option maxRecDepth 100000
/-- leat/leatref06.Drop -/
noncomputable def B28 : Code := bodyOf Try.f28
set_option maxHeartbeats 1000000 in
theorem rDrop_ok (A : Option Addr) (c : Nat) (xs : List Ev) (k : Int) (G : Mem) (hr : rowAt evD G A xs) (hle : xs.length ≤ c) (hmx : c ≤ maxLen) (hsz : xs.length ≤ 1000) : CallsG Try.prog 28 [.slice A xs.length c, .int .i64 k] G (fun _ v rows => ∃ A' c', v = .slice A' (offE k xs).length c' ∧ rows = [⟨66, 4, .slice A' (offE k xs).length c', (offE k xs).length, (offE k xs).flatMap evC⟩]) := by
 simp only [maxLen] at hmx
 refine CallsG.enter Try.func28 rfl rfl ?_
 intro w
 refine Rn 17 (Qc B28 58) [.blk 0, Qs B28 15] ⟨28, [(0, VL A xs.length c), (1, I6 k), (4, VL none 0 0), (5, VL none 0 0), (6, I6 0)], []⟩ ?_
 refine X.nilRow 500 66 4 rfl ?_
 refine X.loopJ (fun m s R' G' => ∃ (B_ : Option Addr) (c_ n_ : Nat) (l_ : List Ev) (i_ : Nat), s = ⟨28, [(0, VL A xs.length c), (1, I6 k), (4, VL none 0 0), (5, VL B_ n_ c_), (6, I6 (i_ : Int))], []⟩ ∧ R' = [(500, RR 66 4 B_ n_ c_ (l_.flatMap evC))] ∧ G = G' ∧ (i_ ≤ xs.length ∧ l_.length = n_ ∧ l_ = offE k (xs.take i_)) ∧ m = (xs.length - i_)) _ ⟨none, 0, 0, [], 0, rfl, rfl, rfl, ⟨by omega, rfl, rfl⟩, rfl⟩ ?_
 rintro m1 s1 R1 G1 ⟨B_, c_, n_, l_, i_, rfl, rfl, rfl, hF1, rfl⟩ J1 hJ1
 obtain ⟨hi_, hln_, hl_⟩ := hF1
 have hlb_ : l_.length ≤ xs.length := by rw [hl_]; exact Nat.le_trans (List.length_filter_le _ _) (by rw [List.length_take]; omega)
 refine Rn 9 (Qc B28 465) [Qs B28 233, .loop J1, .blk 0, Qs B28 15] ⟨28, [(0, VL A xs.length c), (1, I6 k), (4, VL none 0 0), (5, VL B_ n_ c_), (6, I6 (i_ : Int)), (10, VB (decide ((i_ : Int) < (xs.length : Int))))], []⟩ ?_
 refine X.split 10 rfl (fun h2 => ?_) (fun h2 => ?_)
 ·
  replace h2 : (i_ : Int) < ((xs.length : Nat) : Int) := of_decide_eq_true h2
  refine Rn 9 (Qo B28 1864 2) [Qs B28 1865, .blk 1, Qs B28 467, .loop J1, .blk 0, Qs B28 15] ⟨28, [(0, VL A xs.length c), (1, I6 k), (4, VL none 0 0), (5, VL B_ n_ c_), (6, I6 (i_ : Int)), (13, VL A xs.length c), (14, I6 (i_ : Int))], []⟩ ?_
  have b3 : (0 : Int) ≤ (i_ : Int) := by omega
  have b4 : (i_ : Int) < ((xs.length : Nat) : Int) := by omega
  refine Ix 59 66 4 A xs.length c .i64 (i_ : Int) (.tmp 13) (.tmp 14) b3 b4 (fun _ _ => rowAt.so hr (by omega)) ?_
  have at5 := At.ev [(500, ⟨66, 4, .slice B_ n_ c_, n_, l_.flatMap evC⟩)] hr (((i_ : Int)).toNat) (by omega)
  simp only [evC] at at5
  refine Rn 0 (Qo B28 1864 3) [Qs B28 1865, .blk 1, Qs B28 467, .loop J1, .blk 0, Qs B28 15] ⟨28, [(0, VL A xs.length c), (1, I6 k), (4, VL none 0 0), (5, VL B_ n_ c_), (6, I6 (i_ : Int)), (15, .v (elt A (((i_ : Int)).toNat * 4)))], []⟩ ?_
  refine X.field (t := 66) (f := 2) (n := 2) (A := A) (j := ((i_ : Int)).toNat * 4) (x := .tmp 15) (by kernel_rfl) (by kernel_rfl) (by kernel_rfl) (by kernel_rfl) ?_
  refine Rn 0 (Qo B28 1864 4) [Qs B28 1865, .blk 1, Qs B28 467, .loop J1, .blk 0, Qs B28 15] ⟨28, [(0, VL A xs.length c), (1, I6 k), (4, VL none 0 0), (5, VL B_ n_ c_), (6, I6 (i_ : Int)), (16, .v (elt A (((i_ : Int)).toNat * 4 + 2)))], []⟩ ?_
  refine Ld 3 A (((i_ : Int)).toNat * 4 + 2) (.tmp 16) (N6 ((xs.getD (((i_ : Int)).toNat) ev0).2.2.1)) [N6 ((xs.getD (((i_ : Int)).toNat) ev0).2.2.1)] (at5.part 2 1) ?_
  refine Rn 4 (Qc B28 1865) [.blk 1, Qs B28 467, .loop J1, .blk 0, Qs B28 15] ⟨28, [(0, VL A xs.length c), (1, I6 k), (4, VL none 0 0), (5, VL B_ n_ c_), (6, I6 (i_ : Int)), (19, VB (((xs.getD (((i_ : Int)).toNat) ev0).2.2.1) != k))], []⟩ ?_
  refine X.split 19 rfl (fun h6 => ?_) (fun h6 => ?_)
  ·
   replace h6 : ((xs.getD (((i_ : Int)).toNat) ev0).2.2.1) ≠ k := by simpa using h6
   have hkk_ : (xs.getD i_ ev0).2.2.1 ≠ k := h6
   refine Rn 5 (Qo B28 3730 3) [.blk 1, Qs B28 467, .loop J1, .blk 0, Qs B28 15] ⟨28, [(0, VL A xs.length c), (1, I6 k), (4, VL none 0 0), (5, VL B_ n_ c_), (6, I6 (i_ : Int)), (20, VL B_ n_ c_), (21, VL A xs.length c), (22, I6 (i_ : Int))], []⟩ ?_
   have b7 : (0 : Int) ≤ (i_ : Int) := by omega
   have b8 : (i_ : Int) < ((xs.length : Nat) : Int) := by omega
   refine Ix 59 66 4 A xs.length c .i64 (i_ : Int) (.tmp 21) (.tmp 22) b7 b8 (fun _ _ => rowAt.so hr (by omega)) ?_
   have at9 := At.ev [(500, ⟨66, 4, .slice B_ n_ c_, n_, l_.flatMap evC⟩)] hr (((i_ : Int)).toNat) (by omega)
   simp only [evC] at at9
   refine Rn 0 (Qo B28 3730 4) [.blk 1, Qs B28 467, .loop J1, .blk 0, Qs B28 15] ⟨28, [(0, VL A xs.length c), (1, I6 k), (4, VL none 0 0), (5, VL B_ n_ c_), (6, I6 (i_ : Int)), (20, VL B_ n_ c_), (23, .v (elt A (((i_ : Int)).toNat * 4)))], []⟩ ?_
   refine Ld 66 A (((i_ : Int)).toNat * 4) (.tmp 23) (.agg #[N6 ((xs.getD (((i_ : Int)).toNat) ev0).1), N6 ((xs.getD (((i_ : Int)).toNat) ev0).2.1), N6 ((xs.getD (((i_ : Int)).toNat) ev0).2.2.1), N6 ((xs.getD (((i_ : Int)).toNat) ev0).2.2.2)]) [N6 ((xs.getD (((i_ : Int)).toNat) ev0).1), N6 ((xs.getD (((i_ : Int)).toNat) ev0).2.1), N6 ((xs.getD (((i_ : Int)).toNat) ev0).2.2.1), N6 ((xs.getD (((i_ : Int)).toNat) ev0).2.2.2)] at9 ?_
   refine Rn 0 (Qo B28 3730 5) [.blk 1, Qs B28 467, .loop J1, .blk 0, Qs B28 15] ⟨28, [(0, VL A xs.length c), (1, I6 k), (4, VL none 0 0), (5, VL B_ n_ c_), (6, I6 (i_ : Int)), (20, VL B_ n_ c_), (24, .v (.agg #[N6 ((xs.getD (((i_ : Int)).toNat) ev0).1), N6 ((xs.getD (((i_ : Int)).toNat) ev0).2.1), N6 ((xs.getD (((i_ : Int)).toNat) ev0).2.2.1), N6 ((xs.getD (((i_ : Int)).toNat) ev0).2.2.2)]))], []⟩ ?_
   refine Lt 25 66 4 1 [N6 ((xs.getD (((i_ : Int)).toNat) ev0).1), N6 ((xs.getD (((i_ : Int)).toNat) ev0).2.1), N6 ((xs.getD (((i_ : Int)).toNat) ev0).2.2.1), N6 ((xs.getD (((i_ : Int)).toNat) ev0).2.2.2)] ?_
   intro A10
   refine Rn 0 (Qo B28 3730 6) [.blk 1, Qs B28 467, .loop J1, .blk 0, Qs B28 15] ⟨28, [(0, VL A xs.length c), (1, I6 k), (4, VL none 0 0), (5, VL B_ n_ c_), (6, I6 (i_ : Int)), (20, VL B_ n_ c_), (25, VL A10 1 1)], []⟩ ?_
   refine Ap 500 (RR 66 4 B_ n_ c_ (l_.flatMap evC)) 59 32 (.agg #[N6 0, N6 0, N6 0, N6 0]) (.tmp 20) (.tmp 25) n_ c_ 1 1 B_ A10 [N6 ((xs.getD (((i_ : Int)).toNat) ev0).1), N6 ((xs.getD (((i_ : Int)).toNat) ev0).2.1), N6 ((xs.getD (((i_ : Int)).toNat) ev0).2.2.1), N6 ((xs.getD (((i_ : Int)).toNat) ev0).2.2.2)] (.inl rfl) (by kernel_rfl) (At.of_row (i := 25) (r := (RR 66 4 A10 1 1 [N6 ((xs.getD (((i_ : Int)).toNat) ev0).1), N6 ((xs.getD (((i_ : Int)).toNat) ev0).2.1), N6 ((xs.getD (((i_ : Int)).toNat) ev0).2.2.1), N6 ((xs.getD (((i_ : Int)).toNat) ev0).2.2.2)])) rfl rfl) (fun w hw e => absurd (rowSome (i := 25) (q := (RR 66 4 A10 1 1 [N6 ((xs.getD (((i_ : Int)).toNat) ev0).1), N6 ((xs.getD (((i_ : Int)).toNat) ev0).2.1), N6 ((xs.getD (((i_ : Int)).toNat) ev0).2.2.1), N6 ((xs.getD (((i_ : Int)).toNat) ev0).2.2.2)])) rfl rfl (Nat.succ_pos _) w hw) (by rw [e]; decide)) (ones (by kernel_rfl)) (by omega) ?_
   intro A11 c11 hc11
   refine X.tellR [500, 25] (R' := [(500, RR 66 4 A11 (n_ + 1) c11 ((l_ ++ [((xs.getD (((i_ : Int)).toNat) ev0).1, (xs.getD (((i_ : Int)).toNat) ev0).2.1, (xs.getD (((i_ : Int)).toNat) ev0).2.2.1, (xs.getD (((i_ : Int)).toNat) ev0).2.2.2)]).flatMap evC)), (25, RR 66 4 A10 1 1 [N6 ((xs.getD (((i_ : Int)).toNat) ev0).1), N6 ((xs.getD (((i_ : Int)).toNat) ev0).2.1), N6 ((xs.getD (((i_ : Int)).toNat) ev0).2.2.1), N6 ((xs.getD (((i_ : Int)).toNat) ev0).2.2.2)])]) (congrArg (fun cs_ => (500, (RR 66 4 A11 (n_ + 1) c11 cs_ : Row)) :: [(25, RR 66 4 A10 1 1 [N6 ((xs.getD (((i_ : Int)).toNat) ev0).1), N6 ((xs.getD (((i_ : Int)).toNat) ev0).2.1), N6 ((xs.getD (((i_ : Int)).toNat) ev0).2.2.1), N6 ((xs.getD (((i_ : Int)).toNat) ev0).2.2.2)])]) (flat_snoc evC l_ (((xs.getD (((i_ : Int)).toNat) ev0).1, (xs.getD (((i_ : Int)).toNat) ev0).2.1, (xs.getD (((i_ : Int)).toNat) ev0).2.2.1, (xs.getD (((i_ : Int)).toNat) ev0).2.2.2) : Ev))) ?_
   obtain ⟨l11, hl11⟩ : ∃ z_, (l_ ++ [((xs.getD (((i_ : Int)).toNat) ev0).1, (xs.getD (((i_ : Int)).toNat) ev0).2.1, (xs.getD (((i_ : Int)).toNat) ev0).2.2.1, (xs.getD (((i_ : Int)).toNat) ev0).2.2.2)]) = z_ := ⟨_, rfl⟩
   rw [hl11]
   have hn11 : l11.length = n_ + 1 := by rw [← hl11, List.length_append, hln_]; rfl
   refine Rn 7 (Qo B28 467 2) [.loop J1, .blk 0, Qs B28 15] ⟨28, [(0, VL A xs.length c), (1, I6 k), (4, VL none 0 0), (5, VL A11 (n_ + 1) c11), (6, I6 (i_ : Int)), (12, I6 (IntKind.i64.wrap ((i_ : Int) + 1)))], []⟩ ?_
   refine Kn 12 .i64 ((i_ : Int) + 1) rfl (wi64 (by omega) (by omega)) ?_
   refine Rn 2 (.ex .normal) [.loop J1, .blk 0, Qs B28 15] ⟨28, [(0, VL A xs.length c), (1, I6 k), (4, VL none 0 0), (5, VL A11 (n_ + 1) c11), (6, I6 ((i_ : Int) + 1))], []⟩ ?_
   refine X.tellR [500] (R' := [(500, RR 66 4 A11 (n_ + 1) c11 (l11.flatMap evC))]) rfl ?_
   have ht_ := offE_take (k := k) (xs := xs) (i := i_) (by omega)
   rw [if_pos hkk_] at ht_
   exact X.again (hJ1 _ _ _ _ ⟨A11, c11, (n_ + 1), l11, (i_ + 1), rfl, rfl, rfl, ⟨by omega, by assumption, by rw [ht_, ← hl_]; exact hl11.symm⟩, rfl⟩ (by omega))
  ·
   replace h6 : ((xs.getD (((i_ : Int)).toNat) ev0).2.2.1) = k := by simpa using h6
   have hkk_ : (xs.getD i_ ev0).2.2.1 = k := by first | exact h6 | exact Decidable.not_not.mp h6
   refine Rn 7 (Qo B28 467 2) [.loop J1, .blk 0, Qs B28 15] ⟨28, [(0, VL A xs.length c), (1, I6 k), (4, VL none 0 0), (5, VL B_ n_ c_), (6, I6 (i_ : Int)), (12, I6 (IntKind.i64.wrap ((i_ : Int) + 1)))], []⟩ ?_
   refine Kn 12 .i64 ((i_ : Int) + 1) rfl (wi64 (by omega) (by omega)) ?_
   refine Rn 2 (.ex .normal) [.loop J1, .blk 0, Qs B28 15] ⟨28, [(0, VL A xs.length c), (1, I6 k), (4, VL none 0 0), (5, VL B_ n_ c_), (6, I6 ((i_ : Int) + 1))], []⟩ ?_
   have ht_ := offE_take (k := k) (xs := xs) (i := i_) (by omega)
   rw [if_neg (fun h_ => h_ hkk_), List.append_nil] at ht_
   exact X.again (hJ1 _ _ _ _ ⟨B_, c_, n_, l_, (i_ + 1), rfl, rfl, rfl, ⟨by omega, hln_, by rw [ht_]; exact hl_⟩, rfl⟩ (by omega))
 ·
  replace h2 : ¬ ((i_ : Int) < ((xs.length : Nat) : Int)) := of_decide_eq_false h2
  refine Rn 13 (.ex .ret) [] ⟨28, [(4, VL B_ n_ c_)], []⟩ ?_
  refine Dg (.inl rfl) [.slice B_ n_ c_] [500] rfl (Ge.refl _ _) ?_
  have hf_ : l_ = offE k xs := by rw [hl_, List.take_of_length_le (by omega)]
  subst hf_ hln_
  exact ⟨_, _, rfl, rfl⟩
end Go.Proofs.YthpinlcfcgnilaaX
