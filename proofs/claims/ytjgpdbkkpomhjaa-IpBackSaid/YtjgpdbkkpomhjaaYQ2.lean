/- slices.rotate. Walked; printed by a small program of this session. Conditions: none. -/
import Derived.Test.YtjgpdbkkpomhjaaProg
import Derived.KernelRfl
import Derived.Test.YtjgpdbkkpomhjaaYQ1
namespace Go.Proofs.YtjgpdbkkpomhjaaX
open Go.RowKit
open Go.Proofs.YtjgpdbkkpomhjaaW.PrintLast
set_option linter.unusedVariables false
set_option linter.unusedSimpArgs false
set_option maxRecDepth 100000
/-- slices.rotateCmpFunc[leat/ip.part] -/
noncomputable def B178 : Code := bodyOf Try.f178
set_option maxHeartbeats 4000000 in
theorem rotate_ok (A : Option Addr) (c n : Nat) (l : List Pk) (a u b : Nat) (G : Mem) (hl : l.length = n) (ha : a < u) (hb : u < b) (hbn : b ≤ n) (hn : n ≤ 100) : CallsR Try.prog 178 [.v (.slice A n c), .v (.int .i64 (a : Int)), .v (.int .i64 (u : Int)), .v (.int .i64 (b : Int)), .fn 138 []] G ⟨184, 14, .slice A n c, n, (l).flatMap pkC⟩ (fun v cs => v = .tuple #[] ∧ ∃ l', Rt u l (u - a) (b - u) l' ∧ cs = l'.flatMap pkC) := by
 refine CallsR.enter 1 Try.func178 rfl rfl ?_
 intro w
 refine Rn 5 (Qo B178 2 3) [Qs B178 3] ⟨58, [(0, VL A n c), (2, I6 (u : Int)), (3, I6 (b : Int)), (4, .fn 138 []), (14, I6 (IntKind.i64.wrap ((u : Int) - (a : Int))))], []⟩ ?_
 refine Kn 14 .i64 ((u - a : Nat) : Int) rfl (by rw [wi64 (by omega) (by omega)]; omega) ?_
 refine Rn 8 (Qo B178 6 3) [Qs B178 7] ⟨58, [(0, VL A n c), (2, I6 (u : Int)), (4, .fn 138 []), (10, I6 ((u - a : Nat) : Int)), (17, I6 (IntKind.i64.wrap ((b : Int) - (u : Int))))], []⟩ ?_
 refine Kn 17 .i64 ((b - u : Nat) : Int) rfl (by rw [wi64 (by omega) (by omega)]; omega) ?_
 refine Rn 5 (Qc B178 28) [.blk 0, Qs B178 15] ⟨58, [(0, VL A n c), (2, I6 (u : Int)), (4, .fn 138 []), (10, I6 ((u - a : Nat) : Int)), (11, I6 ((b - u : Nat) : Int))], []⟩ ?_
 refine X.loopJ (fun m s R' G' => ∃ (i_ j_ : Nat) (l_ : List Pk), s = ⟨58, [(0, VL A n c), (2, I6 (u : Int)), (4, .fn 138 []), (10, I6 (i_ : Int)), (11, I6 (j_ : Int))], []⟩ ∧ R' = [(1, RR 184 14 A n c ((l_).flatMap pkC))] ∧ Ge G w.heap.size G' ∧ ((0 < i_ ∧ 0 < j_ ∧ i_ ≤ u ∧ u + j_ ≤ n) ∧ l_.length = n ∧ ∀ l2_, Rt u l_ i_ j_ l2_ → Rt u l (u - a) (b - u) l2_) ∧ m = (i_ + j_)) _ ⟨(u - a), (b - u), l, rfl, rfl, Ge.refl _ _, ⟨⟨by omega, by omega, by omega, by omega⟩, hl, fun _ h_ => h_⟩, rfl⟩ ?_
 rintro m1 s1 R1 G1 ⟨i_, j_, l_, rfl, rfl, hG1, hF1, rfl⟩ J1 hJ1
 obtain ⟨⟨hi0_, hj0_, him_, hjn_⟩, hll_, hrt_⟩ := hF1
 refine Rn 8 (Qc B178 225) [Qs B178 113, .loop J1, .blk 0, Qs B178 15] ⟨58, [(0, VL A n c), (2, I6 (u : Int)), (4, .fn 138 []), (10, I6 (i_ : Int)), (11, I6 (j_ : Int)), (20, VB ((i_ : Int) != (j_ : Int)))], []⟩ ?_
 refine X.split 20 rfl (fun h2 => ?_) (fun h2 => ?_)
 ·
  replace h2 : (i_ : Int) ≠ (j_ : Int) := by simpa using h2
  refine Rn 11 (Qc B178 453) [.blk 1, .loop J1, .blk 0, Qs B178 15] ⟨58, [(0, VL A n c), (2, I6 (u : Int)), (4, .fn 138 []), (10, I6 (i_ : Int)), (11, I6 (j_ : Int)), (23, VB (decide ((i_ : Int) > (j_ : Int))))], []⟩ ?_
  refine X.split 23 rfl (fun h3 => ?_) (fun h3 => ?_)
  ·
   replace h3 : (i_ : Int) > (j_ : Int) := of_decide_eq_true h3
   refine Rn 7 (Qo B178 1812 4) [Qs B178 1813, .blk 1, .loop J1, .blk 0, Qs B178 15] ⟨58, [(0, VL A n c), (2, I6 (u : Int)), (4, .fn 138 []), (10, I6 (i_ : Int)), (11, I6 (j_ : Int)), (24, VL A n c), (27, I6 (IntKind.i64.wrap ((u : Int) - (i_ : Int))))], []⟩ ?_
   refine Kn 27 .i64 ((u - i_ : Nat) : Int) rfl (by rw [wi64 (by omega) (by omega)]; omega) ?_
   refine Rn 3 (Qo B178 1812 7) [Qs B178 1813, .blk 1, .loop J1, .blk 0, Qs B178 15] ⟨58, [(0, VL A n c), (2, I6 (u : Int)), (4, .fn 138 []), (10, I6 (i_ : Int)), (11, I6 (j_ : Int)), (24, VL A n c), (27, I6 ((u - i_ : Nat) : Int)), (28, I6 (u : Int)), (29, I6 (j_ : Int)), (30, .fn 138 [])], []⟩ ?_
   refine X.callR (f := 179) (l := [VL A n c, I6 ((u - i_ : Nat) : Int), I6 (u : Int), I6 (j_ : Int), .fn 138 []]) 1 (q := (RR 184 14 A n c ((l_).flatMap pkC))) (by kernel_rfl) rfl (by kernel_rfl) rfl (swap_ok A c n l_ (u - i_) u j_ _ hll_ (by omega) (by omega) hn) ?_
   rintro _ _ ⟨rfl, rfl⟩
   refine X.tellR [1] (R' := [(1, RR 184 14 A n c ((swR l_ (u - i_) u j_).flatMap pkC))]) rfl ?_
   obtain ⟨l4, hl4⟩ : ∃ z_, swR l_ (u - i_) u j_ = z_ := ⟨_, rfl⟩
   rw [hl4]
   have hn4 : l4.length = n := by rw [← hl4]; rw [swR_len]; exact hll_
   refine Rn 6 (Qo B178 1813 3) [.blk 1, .loop J1, .blk 0, Qs B178 15] ⟨58, [(0, VL A n c), (2, I6 (u : Int)), (4, .fn 138 []), (10, I6 (i_ : Int)), (11, I6 (j_ : Int)), (34, I6 (IntKind.i64.wrap ((i_ : Int) - (j_ : Int))))], []⟩ ?_
   refine Kn 34 .i64 ((i_ - j_ : Nat) : Int) rfl (by rw [wi64 (by omega) (by omega)]; omega) ?_
   refine Rn 3 (.ex .normal) [.loop J1, .blk 0, Qs B178 15] ⟨58, [(0, VL A n c), (2, I6 (u : Int)), (4, .fn 138 []), (10, I6 ((i_ - j_ : Nat) : Int)), (11, I6 (j_ : Int))], []⟩ ?_
   exact X.again (hJ1 _ _ _ _ ⟨(i_ - j_), j_, l4, rfl, rfl, hG1, ⟨⟨by omega, by omega, by omega, by omega⟩, by assumption, fun l2_ h_ => hrt_ l2_ (.gt (by omega) (by rw [hl4]; exact h_))⟩, rfl⟩ (by omega))
  ·
   replace h3 : ¬ ((i_ : Int) > (j_ : Int)) := of_decide_eq_false h3
   refine Rn 7 (Qo B178 1814 4) [Qs B178 1815, .blk 1, .loop J1, .blk 0, Qs B178 15] ⟨58, [(0, VL A n c), (2, I6 (u : Int)), (4, .fn 138 []), (10, I6 (i_ : Int)), (11, I6 (j_ : Int)), (35, VL A n c), (38, I6 (IntKind.i64.wrap ((u : Int) - (i_ : Int))))], []⟩ ?_
   refine Kn 38 .i64 ((u - i_ : Nat) : Int) rfl (by rw [wi64 (by omega) (by omega)]; omega) ?_
   refine Rn 3 (Qo B178 1814 7) [Qs B178 1815, .blk 1, .loop J1, .blk 0, Qs B178 15] ⟨58, [(0, VL A n c), (2, I6 (u : Int)), (4, .fn 138 []), (10, I6 (i_ : Int)), (11, I6 (j_ : Int)), (35, VL A n c), (38, I6 ((u - i_ : Nat) : Int)), (41, I6 (IntKind.i64.wrap ((u : Int) + (j_ : Int))))], []⟩ ?_
   refine Kn 41 .i64 ((u + j_ : Nat) : Int) rfl (by rw [wi64 (by omega) (by omega)]; omega) ?_
   refine Rn 2 (Qo B178 1814 9) [Qs B178 1815, .blk 1, .loop J1, .blk 0, Qs B178 15] ⟨58, [(0, VL A n c), (2, I6 (u : Int)), (4, .fn 138 []), (10, I6 (i_ : Int)), (11, I6 (j_ : Int)), (35, VL A n c), (38, I6 ((u - i_ : Nat) : Int)), (43, I6 (IntKind.i64.wrap (((u + j_ : Nat) : Int) - (i_ : Int))))], []⟩ ?_
   refine Kn 43 .i64 ((u + j_ - i_ : Nat) : Int) rfl (by rw [wi64 (by omega) (by omega)]; omega) ?_
   refine Rn 2 (Qo B178 1814 11) [Qs B178 1815, .blk 1, .loop J1, .blk 0, Qs B178 15] ⟨58, [(0, VL A n c), (2, I6 (u : Int)), (4, .fn 138 []), (10, I6 (i_ : Int)), (11, I6 (j_ : Int)), (35, VL A n c), (38, I6 ((u - i_ : Nat) : Int)), (43, I6 ((u + j_ - i_ : Nat) : Int)), (44, I6 (i_ : Int)), (45, .fn 138 [])], []⟩ ?_
   refine X.callR (f := 179) (l := [VL A n c, I6 ((u - i_ : Nat) : Int), I6 ((u + j_ - i_ : Nat) : Int), I6 (i_ : Int), .fn 138 []]) 1 (q := (RR 184 14 A n c ((l_).flatMap pkC))) (by kernel_rfl) rfl (by kernel_rfl) rfl (swap_ok A c n l_ (u - i_) (u + j_ - i_) i_ _ hll_ (by omega) (by omega) hn) ?_
   rintro _ _ ⟨rfl, rfl⟩
   refine X.tellR [1] (R' := [(1, RR 184 14 A n c ((swR l_ (u - i_) (u + j_ - i_) i_).flatMap pkC))]) rfl ?_
   obtain ⟨l5, hl5⟩ : ∃ z_, swR l_ (u - i_) (u + j_ - i_) i_ = z_ := ⟨_, rfl⟩
   rw [hl5]
   have hn5 : l5.length = n := by rw [← hl5]; rw [swR_len]; exact hll_
   refine Rn 6 (Qo B178 1815 3) [.blk 1, .loop J1, .blk 0, Qs B178 15] ⟨58, [(0, VL A n c), (2, I6 (u : Int)), (4, .fn 138 []), (10, I6 (i_ : Int)), (11, I6 (j_ : Int)), (49, I6 (IntKind.i64.wrap ((j_ : Int) - (i_ : Int))))], []⟩ ?_
   refine Kn 49 .i64 ((j_ - i_ : Nat) : Int) rfl (by rw [wi64 (by omega) (by omega)]; omega) ?_
   refine Rn 3 (.ex .normal) [.loop J1, .blk 0, Qs B178 15] ⟨58, [(0, VL A n c), (2, I6 (u : Int)), (4, .fn 138 []), (10, I6 (i_ : Int)), (11, I6 ((j_ - i_ : Nat) : Int))], []⟩ ?_
   exact X.again (hJ1 _ _ _ _ ⟨i_, (j_ - i_), l5, rfl, rfl, hG1, ⟨⟨by omega, by omega, by omega, by omega⟩, by assumption, fun l2_ h_ => hrt_ l2_ (.lt (by omega) (by rw [hl5]; exact h_))⟩, rfl⟩ (by omega))
 ·
  replace h2 : (i_ : Int) = (j_ : Int) := by simpa using h2
  refine Rn 11 (Qo B178 15 4) [] ⟨58, [(2, I6 (u : Int)), (4, .fn 138 []), (10, I6 (i_ : Int)), (50, VL A n c), (53, I6 (IntKind.i64.wrap ((u : Int) - (i_ : Int))))], []⟩ ?_
  refine Kn 53 .i64 ((u - i_ : Nat) : Int) rfl (by rw [wi64 (by omega) (by omega)]; omega) ?_
  refine Rn 3 (Qo B178 15 7) [] ⟨58, [(50, VL A n c), (53, I6 ((u - i_ : Nat) : Int)), (54, I6 (u : Int)), (55, I6 (i_ : Int)), (56, .fn 138 [])], []⟩ ?_
  refine X.callR (f := 179) (l := [VL A n c, I6 ((u - i_ : Nat) : Int), I6 (u : Int), I6 (i_ : Int), .fn 138 []]) 1 (q := (RR 184 14 A n c ((l_).flatMap pkC))) (by kernel_rfl) rfl (by kernel_rfl) rfl (swap_ok A c n l_ (u - i_) u i_ _ hll_ (by omega) (by omega) hn) ?_
  rintro _ _ ⟨rfl, rfl⟩
  refine X.tellR [1] (R' := [(1, RR 184 14 A n c ((swR l_ (u - i_) u i_).flatMap pkC))]) rfl ?_
  obtain ⟨l6, hl6⟩ : ∃ z_, swR l_ (u - i_) u i_ = z_ := ⟨_, rfl⟩
  rw [hl6]
  have hn6 : l6.length = n := by rw [← hl6]; rw [swR_len]; exact hll_
  refine Rn 1 (.ex .normal) [] ⟨58, [], []⟩ ?_
  refine doneR (.inr rfl) [] 1 (l6.flatMap pkC) (by kernel_rfl) rfl ?_
  have hij_ : i_ = j_ := by omega
  subst hij_
  rw [← hl6]
  exact ⟨rfl, _, hrt_ _ .eq, rfl⟩
end Go.Proofs.YtjgpdbkkpomhjaaX
