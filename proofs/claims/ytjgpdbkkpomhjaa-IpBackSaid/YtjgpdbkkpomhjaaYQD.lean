/- slices.SortStableFunc, up to 39 parts. Walked; printed by a small program of this session. Conditions: none. -/
import Derived.Test.YtjgpdbkkpomhjaaProg
import Derived.KernelRfl
import Derived.Test.YtjgpdbkkpomhjaaYJE
import Derived.Test.YtjgpdbkkpomhjaaYQC
namespace Go.Proofs.YtjgpdbkkpomhjaaX
open Go.RowKit
open Go.Proofs.YtjgpdbkkpomhjaaW.PrintLast
set_option linter.unusedVariables false
set_option linter.unusedSimpArgs false
set_option maxRecDepth 100000
theorem insR_all {α : Type} {pl : α → Int} {l : List α} {n : Nat} (h : l.length = n) : insR pl l 0 n = sortI pl l := by
 unfold insR
 rw [List.take_zero, List.nil_append, List.drop_zero, List.take_of_length_le (by omega), List.drop_of_length_le (by omega), List.append_nil]
theorem mg_all {l l' : List Pk} {n : Nat} (h : Mg l l' 0 n) (hl : l.length = n) : l'.Perm l := by
 have e : ∀ q : List Pk, q.length = n → btw q 0 n = q := fun q hq => by unfold btw; rw [List.drop_zero, List.take_of_length_le (by omega)]
 have := h.perm
 rwa [e _ (h.len.trans hl), e _ hl] at this
theorem srt_all {l : List Pk} {n : Nat} (h : Srt l 0 n) (hl : l.length = n) : SortedP plI l := by
 unfold Srt btw at h
 rwa [List.drop_zero, List.take_of_length_le (by omega)] at h
theorem insR_srt {l : List Pk} {a b : Nat} (h : a ≤ b) (hb : b ≤ l.length) : Srt (insR plI l a b) a b ∧ (insR plI l a b).take a = l.take a := by
 have ha : (l.take a).length = a := by rw [List.length_take]; omega
 have hz : (sortI plI ((l.take b).drop a)).length = b - a := by rw [sortI_len, List.length_drop, List.length_take]; omega
 unfold insR Srt
 rw [List.append_assoc]
 exact ⟨by rw [btw_mid ha (by omega)]; exact sortI_sorted _, List.take_left' ha⟩
theorem srt_two {l : List Pk} {n : Nat} (hl : l.length = n) (h : 20 ≤ n) : Srt (insR plI (insR plI l 0 20) 20 n) 0 20 ∧ Srt (insR plI (insR plI l 0 20) 20 n) 20 n := by
 have h1 := insR_srt (l := l) (a := 0) (b := 20) (by omega) (by omega)
 have h2 := insR_srt (l := insR plI l 0 20) (a := 20) (b := n) h (by rw [insR_len l (by omega)]; omega)
 refine ⟨?_, h2.1⟩
 unfold Srt
 rw [btw_lo h2.2 (Nat.le_refl _)]
 exact h1.1
/-- slices.stableCmpFunc[leat/ip.part] -/
noncomputable def B164 : Code := bodyOf Try.f164
set_option maxHeartbeats 4000000 in
theorem stable_ok (A : Option Addr) (c n : Nat) (l : List Pk) (G : Mem) (hl : l.length = n) (hn : n ≤ 20) (hok : ∀ x ∈ l, x.1.ok) : CallsR Try.prog 164 [.v (.slice A n c), .v (.int .i64 (n : Int)), .fn 138 []] G ⟨184, 14, .slice A n c, n, (l).flatMap pkC⟩ (fun v cs => v = .tuple #[] ∧ cs = (sortI plI l).flatMap pkC) := by
 refine CallsR.enter 1 Try.func164 rfl rfl ?_
 intro w
 refine Rn 14 (Qc B164 28) [.blk 0, Qs B164 15] ⟨63, [(0, VL A n c), (1, I6 (n : Int)), (2, .fn 138 []), (6, I6 20), (7, I6 0), (8, I6 20)], []⟩ ?_
 refine X.rounds 4 ?_
 refine RX.succ fun J1 hJ1 => ?_
 refine Rn 8 (Qc B164 225) [Qs B164 113, .loop J1, .blk 0, Qs B164 15] ⟨63, [(0, VL A n c), (1, I6 (n : Int)), (2, .fn 138 []), (6, I6 20), (7, I6 0), (8, I6 20), (11, I6 20), (12, I6 (n : Int)), (13, VB (decide (20 ≤ (n : Int))))], []⟩ ?_
 refine X.split 13 rfl (fun h2 => ?_) (fun h2 => ?_)
 ·
  replace h2 : 20 ≤ (n : Int) := of_decide_eq_true h2
  refine Rn 10 (Qo B164 452 4) [Qs B164 453, .blk 1, .loop J1, .blk 0, Qs B164 15] ⟨63, [(0, VL A n c), (1, I6 (n : Int)), (2, .fn 138 []), (6, I6 20), (7, I6 0), (8, I6 20), (11, I6 20), (12, I6 (n : Int)), (13, VB true), (14, VL A n c), (15, I6 0), (16, I6 20), (17, .fn 138 [])], []⟩ ?_
  refine X.callR (f := 174) (l := [VL A n c, I6 0, I6 20, .fn 138 []]) 1 (q := (RR 184 14 A n c ((l).flatMap pkC))) (by kernel_rfl) rfl (by kernel_rfl) rfl (ins_ok A c n l 0 20 _ hl (by omega) (by omega) (by omega) hok) ?_
  rintro _ _ ⟨rfl, rfl⟩
  refine X.tellR [1] (R' := [(1, RR 184 14 A n c ((insR plI l 0 20).flatMap pkC))]) rfl ?_
  obtain ⟨l3, hl3⟩ : ∃ z_, insR plI l 0 20 = z_ := ⟨_, rfl⟩
  rw [hl3]
  have hn3 : l3.length = n := by rw [← hl3]; rw [insR_len _ (by omega)]; exact hl
  have hp3_ : l3.Perm l := by rw [← hl3]; exact (insR_perm _ (by omega)).trans (List.Perm.refl l)
  refine Rn 15 (.ex .normal) [.loop J1, .blk 0, Qs B164 15] ⟨63, [(0, VL A n c), (1, I6 (n : Int)), (2, .fn 138 []), (6, I6 20), (7, I6 20), (8, I6 40), (11, I6 20), (12, I6 (n : Int)), (13, VB true), (14, VL A n c), (15, I6 0), (16, I6 20), (17, .fn 138 []), (19, I6 20), (20, I6 20), (21, I6 20), (22, I6 40)], []⟩ ?_
  refine X.again (hJ1 _ _ _ ?_)
  refine RX.succ fun J4 hJ4 => ?_
  refine Rn 8 (Qc B164 225) [Qs B164 113, .loop J4, .blk 0, Qs B164 15] ⟨63, [(0, VL A n c), (1, I6 (n : Int)), (2, .fn 138 []), (6, I6 20), (7, I6 20), (8, I6 40), (11, I6 40), (12, I6 (n : Int)), (13, VB (decide (40 ≤ (n : Int)))), (14, VL A n c), (15, I6 0), (16, I6 20), (17, .fn 138 []), (19, I6 20), (20, I6 20), (21, I6 20), (22, I6 40)], []⟩ ?_
  refine X.isFalse 13 rfl (decide_eq_false (by omega)) ?_
  refine Rn 12 (Qo B164 30 4) [Qs B164 31] ⟨63, [(0, VL A n c), (1, I6 (n : Int)), (2, .fn 138 []), (6, I6 20), (7, I6 20), (8, I6 40), (23, VL A n c), (24, I6 20), (25, I6 (n : Int)), (26, .fn 138 [])], []⟩ ?_
  refine X.callR (f := 174) (l := [VL A n c, I6 20, I6 (n : Int), .fn 138 []]) 1 (q := (RR 184 14 A n c (l3.flatMap pkC))) (by kernel_rfl) rfl (by kernel_rfl) rfl (ins_ok A c n l3 20 n _ hn3 (by omega) (by omega) (by omega) (fun x_ h_ => hok x_ (hp3_.mem_iff.mp h_))) ?_
  rintro _ _ ⟨rfl, rfl⟩
  refine X.tellR [1] (R' := [(1, RR 184 14 A n c ((insR plI l3 20 n).flatMap pkC))]) rfl ?_
  obtain ⟨l5, hl5⟩ : ∃ z_, insR plI l3 20 n = z_ := ⟨_, rfl⟩
  rw [hl5]
  have hn5 : l5.length = n := by rw [← hl5]; rw [insR_len _ (by omega)]; exact hn3
  have hp5_ : l5.Perm l := by rw [← hl5]; exact (insR_perm _ (by omega)).trans hp3_
  refine Rn 3 (Qc B164 62) [.blk 2] ⟨63, [(0, VL A n c), (1, I6 (n : Int)), (2, .fn 138 []), (6, I6 20), (7, I6 20), (8, I6 40)], []⟩ ?_
  refine X.rounds 2 ?_
  refine RX.succ fun J6 hJ6 => ?_
  refine Rn 8 (Qc B164 497) [Qs B164 249, .loop J6, .blk 2] ⟨63, [(0, VL A n c), (1, I6 (n : Int)), (2, .fn 138 []), (6, I6 20), (7, I6 20), (8, I6 40), (28, I6 20), (29, I6 (n : Int)), (30, VB (decide (20 < (n : Int))))], []⟩ ?_
  refine X.isFalse 30 rfl (decide_eq_false (by omega)) ?_
  refine Rn 5 (.ex .normal) [] ⟨63, [], []⟩ ?_
  refine doneR (.inr rfl) [] 1 (l5.flatMap pkC) (by kernel_rfl) rfl ?_
  have hfi_ : l5 = sortI plI l := by rw [← hl5, ← hl3, show n = 20 by omega, insR_same]; exact insR_all (by omega)
  rw [hfi_]
  exact ⟨rfl, rfl⟩
 ·
  replace h2 : ¬ (20 ≤ (n : Int)) := of_decide_eq_false h2
  refine Rn 12 (Qo B164 30 4) [Qs B164 31] ⟨63, [(0, VL A n c), (1, I6 (n : Int)), (2, .fn 138 []), (6, I6 20), (7, I6 0), (8, I6 20), (23, VL A n c), (24, I6 0), (25, I6 (n : Int)), (26, .fn 138 [])], []⟩ ?_
  refine X.callR (f := 174) (l := [VL A n c, I6 0, I6 (n : Int), .fn 138 []]) 1 (q := (RR 184 14 A n c ((l).flatMap pkC))) (by kernel_rfl) rfl (by kernel_rfl) rfl (ins_ok A c n l 0 n _ hl (by omega) (by omega) (by omega) hok) ?_
  rintro _ _ ⟨rfl, rfl⟩
  refine X.tellR [1] (R' := [(1, RR 184 14 A n c ((insR plI l 0 n).flatMap pkC))]) rfl ?_
  obtain ⟨l7, hl7⟩ : ∃ z_, insR plI l 0 n = z_ := ⟨_, rfl⟩
  rw [hl7]
  have hn7 : l7.length = n := by rw [← hl7]; rw [insR_len _ (by omega)]; exact hl
  have hp7_ : l7.Perm l := by rw [← hl7]; exact (insR_perm _ (by omega)).trans (List.Perm.refl l)
  refine Rn 3 (Qc B164 62) [.blk 2] ⟨63, [(0, VL A n c), (1, I6 (n : Int)), (2, .fn 138 []), (6, I6 20), (7, I6 0), (8, I6 20)], []⟩ ?_
  refine X.rounds 2 ?_
  refine RX.succ fun J8 hJ8 => ?_
  refine Rn 8 (Qc B164 497) [Qs B164 249, .loop J8, .blk 2] ⟨63, [(0, VL A n c), (1, I6 (n : Int)), (2, .fn 138 []), (6, I6 20), (7, I6 0), (8, I6 20), (28, I6 20), (29, I6 (n : Int)), (30, VB (decide (20 < (n : Int))))], []⟩ ?_
  refine X.isFalse 30 rfl (decide_eq_false (by omega)) ?_
  refine Rn 5 (.ex .normal) [] ⟨63, [], []⟩ ?_
  refine doneR (.inr rfl) [] 1 (l7.flatMap pkC) (by kernel_rfl) rfl ?_
  have hfi_ : l7 = sortI plI l := by rw [← hl7]; exact insR_all hl
  rw [hfi_]
  exact ⟨rfl, rfl⟩
set_option maxHeartbeats 4000000 in
theorem stableB_ok (A : Option Addr) (c n : Nat) (l : List Pk) (G : Mem) (hl : l.length = n) (h20 : 20 < n) (hn : n ≤ 39) (hok : ∀ x ∈ l, x.1.ok) : CallsR Try.prog 164 [.v (.slice A n c), .v (.int .i64 (n : Int)), .fn 138 []] G ⟨184, 14, .slice A n c, n, (l).flatMap pkC⟩ (fun v cs => v = .tuple #[] ∧ ∃ l', l'.Perm l ∧ SortedP plI l' ∧ cs = l'.flatMap pkC) := by
 refine CallsR.enter 1 Try.func164 rfl rfl ?_
 intro w
 refine Rn 14 (Qc B164 28) [.blk 0, Qs B164 15] ⟨63, [(0, VL A n c), (1, I6 (n : Int)), (2, .fn 138 []), (6, I6 20), (7, I6 0), (8, I6 20)], []⟩ ?_
 refine X.rounds 4 ?_
 refine RX.succ fun J1 hJ1 => ?_
 refine Rn 8 (Qc B164 225) [Qs B164 113, .loop J1, .blk 0, Qs B164 15] ⟨63, [(0, VL A n c), (1, I6 (n : Int)), (2, .fn 138 []), (6, I6 20), (7, I6 0), (8, I6 20), (11, I6 20), (12, I6 (n : Int)), (13, VB (decide (20 ≤ (n : Int))))], []⟩ ?_
 refine X.isTrue 13 rfl (decide_eq_true (by omega)) ?_
 refine Rn 10 (Qo B164 452 4) [Qs B164 453, .blk 1, .loop J1, .blk 0, Qs B164 15] ⟨63, [(0, VL A n c), (1, I6 (n : Int)), (2, .fn 138 []), (6, I6 20), (7, I6 0), (8, I6 20), (11, I6 20), (12, I6 (n : Int)), (13, VB true), (14, VL A n c), (15, I6 0), (16, I6 20), (17, .fn 138 [])], []⟩ ?_
 refine X.callR (f := 174) (l := [VL A n c, I6 0, I6 20, .fn 138 []]) 1 (q := (RR 184 14 A n c ((l).flatMap pkC))) (by kernel_rfl) rfl (by kernel_rfl) rfl (ins_ok A c n l 0 20 _ hl (by omega) (by omega) (by omega) hok) ?_
 rintro _ _ ⟨rfl, rfl⟩
 refine X.tellR [1] (R' := [(1, RR 184 14 A n c ((insR plI l 0 20).flatMap pkC))]) rfl ?_
 obtain ⟨l2, hl2⟩ : ∃ z_, insR plI l 0 20 = z_ := ⟨_, rfl⟩
 rw [hl2]
 have hn2 : l2.length = n := by rw [← hl2]; rw [insR_len _ (by omega)]; exact hl
 have hp2_ : l2.Perm l := by rw [← hl2]; exact (insR_perm _ (by omega)).trans (List.Perm.refl l)
 refine Rn 15 (.ex .normal) [.loop J1, .blk 0, Qs B164 15] ⟨63, [(0, VL A n c), (1, I6 (n : Int)), (2, .fn 138 []), (6, I6 20), (7, I6 20), (8, I6 40), (11, I6 20), (12, I6 (n : Int)), (13, VB true), (14, VL A n c), (15, I6 0), (16, I6 20), (17, .fn 138 []), (19, I6 20), (20, I6 20), (21, I6 20), (22, I6 40)], []⟩ ?_
 refine X.again (hJ1 _ _ _ ?_)
 refine RX.succ fun J3 hJ3 => ?_
 refine Rn 8 (Qc B164 225) [Qs B164 113, .loop J3, .blk 0, Qs B164 15] ⟨63, [(0, VL A n c), (1, I6 (n : Int)), (2, .fn 138 []), (6, I6 20), (7, I6 20), (8, I6 40), (11, I6 40), (12, I6 (n : Int)), (13, VB (decide (40 ≤ (n : Int)))), (14, VL A n c), (15, I6 0), (16, I6 20), (17, .fn 138 []), (19, I6 20), (20, I6 20), (21, I6 20), (22, I6 40)], []⟩ ?_
 refine X.isFalse 13 rfl (decide_eq_false (by omega)) ?_
 refine Rn 12 (Qo B164 30 4) [Qs B164 31] ⟨63, [(0, VL A n c), (1, I6 (n : Int)), (2, .fn 138 []), (6, I6 20), (7, I6 20), (8, I6 40), (23, VL A n c), (24, I6 20), (25, I6 (n : Int)), (26, .fn 138 [])], []⟩ ?_
 refine X.callR (f := 174) (l := [VL A n c, I6 20, I6 (n : Int), .fn 138 []]) 1 (q := (RR 184 14 A n c (l2.flatMap pkC))) (by kernel_rfl) rfl (by kernel_rfl) rfl (ins_ok A c n l2 20 n _ hn2 (by omega) (by omega) (by omega) (fun x_ h_ => hok x_ (hp2_.mem_iff.mp h_))) ?_
 rintro _ _ ⟨rfl, rfl⟩
 refine X.tellR [1] (R' := [(1, RR 184 14 A n c ((insR plI l2 20 n).flatMap pkC))]) rfl ?_
 obtain ⟨l4, hl4⟩ : ∃ z_, insR plI l2 20 n = z_ := ⟨_, rfl⟩
 rw [hl4]
 have hn4 : l4.length = n := by rw [← hl4]; rw [insR_len _ (by omega)]; exact hn2
 have hp4_ : l4.Perm l := by rw [← hl4]; exact (insR_perm _ (by omega)).trans hp2_
 refine Rn 3 (Qc B164 62) [.blk 2] ⟨63, [(0, VL A n c), (1, I6 (n : Int)), (2, .fn 138 []), (6, I6 20), (7, I6 20), (8, I6 40)], []⟩ ?_
 refine X.rounds 4 ?_
 refine RX.succ fun J5 hJ5 => ?_
 refine Rn 8 (Qc B164 497) [Qs B164 249, .loop J5, .blk 2] ⟨63, [(0, VL A n c), (1, I6 (n : Int)), (2, .fn 138 []), (6, I6 20), (7, I6 20), (8, I6 40), (28, I6 20), (29, I6 (n : Int)), (30, VB (decide (20 < (n : Int))))], []⟩ ?_
 refine X.isTrue 30 rfl (decide_eq_true (by omega)) ?_
 refine Rn 14 (Qc B164 3988) [.blk 4, Qs B164 1995, .blk 3, .loop J5, .blk 2] ⟨63, [(0, VL A n c), (1, I6 (n : Int)), (2, .fn 138 []), (6, I6 20), (7, I6 0), (8, I6 40), (28, I6 20), (29, I6 (n : Int)), (30, VB true), (31, I6 20), (32, I6 40)], []⟩ ?_
 refine X.rounds 4 ?_
 refine RX.succ fun J6 hJ6 => ?_
 refine Rn 8 (Qc B164 31905) [Qs B164 15953, .loop J6, .blk 4, Qs B164 1995, .blk 3, .loop J5, .blk 2] ⟨63, [(0, VL A n c), (1, I6 (n : Int)), (2, .fn 138 []), (6, I6 20), (7, I6 0), (8, I6 40), (28, I6 20), (29, I6 (n : Int)), (30, VB true), (31, I6 20), (32, I6 40), (33, I6 40), (34, I6 (n : Int)), (35, VB (decide (40 ≤ (n : Int))))], []⟩ ?_
 refine X.isFalse 35 rfl (decide_eq_false (by omega)) ?_
 refine Rn 22 (Qc B164 15963) [Qs B164 3991, .blk 3, .loop J5, .blk 2] ⟨63, [(0, VL A n c), (1, I6 (n : Int)), (2, .fn 138 []), (6, I6 20), (7, I6 0), (8, I6 40), (9, I6 20), (28, I6 20), (29, I6 (n : Int)), (30, VB true), (31, I6 20), (32, I6 40), (33, I6 40), (34, I6 (n : Int)), (35, VB false), (49, I6 0), (50, I6 20), (51, I6 20), (52, I6 20), (53, I6 (n : Int)), (54, VB (decide (20 < (n : Int))))], []⟩ ?_
 refine X.isTrue 54 rfl (decide_eq_true (by omega)) ?_
 refine Rn 7 (Qo B164 31926 5) [Qs B164 3991, .blk 3, .loop J5, .blk 2] ⟨63, [(0, VL A n c), (1, I6 (n : Int)), (2, .fn 138 []), (6, I6 20), (7, I6 0), (8, I6 40), (9, I6 20), (28, I6 20), (29, I6 (n : Int)), (30, VB true), (31, I6 20), (32, I6 40), (33, I6 40), (34, I6 (n : Int)), (35, VB false), (49, I6 0), (50, I6 20), (51, I6 20), (52, I6 20), (53, I6 (n : Int)), (54, VB true), (55, VL A n c), (56, I6 0), (57, I6 20), (58, I6 (n : Int)), (59, .fn 138 [])], []⟩ ?_
 have hsa_ : Srt l4 0 20 ∧ Srt l4 20 n := by rw [← hl4, ← hl2]; exact srt_two hl (by omega)
 refine X.callR (f := 175) (l := [VL A n c, I6 0, I6 20, I6 (n : Int), .fn 138 []]) 1 (q := (RR 184 14 A n c (l4.flatMap pkC))) (by kernel_rfl) rfl (by kernel_rfl) rfl (sym_ok A c n (by omega) 100 l4 0 20 n _ (by omega) (by omega) (by omega) (by omega) hn4 (fun x_ h_ => hok x_ (hp4_.mem_iff.mp h_)) hsa_.1 hsa_.2) ?_
 rintro _ _ ⟨rfl, l9_, hm9_, ho9_, rfl⟩
 refine X.tellR [1] (R' := [(1, RR 184 14 A n c ((l9_).flatMap pkC))]) rfl ?_
 have hl9_ : l9_.length = n := hm9_.len.trans hn4
 have hp9_ : l9_.Perm l := (mg_all hm9_ hn4).trans hp4_
 have hs9_ : SortedP plI l9_ := srt_all ho9_ hl9_
 refine Rn 8 (.ex .normal) [.loop J5, .blk 2] ⟨63, [(0, VL A n c), (1, I6 (n : Int)), (2, .fn 138 []), (6, I6 40), (7, I6 0), (8, I6 40), (9, I6 20), (28, I6 20), (29, I6 (n : Int)), (30, VB true), (31, I6 20), (32, I6 40), (33, I6 40), (34, I6 (n : Int)), (35, VB false), (49, I6 0), (50, I6 20), (51, I6 20), (52, I6 20), (53, I6 (n : Int)), (54, VB true), (55, VL A n c), (56, I6 0), (57, I6 20), (58, I6 (n : Int)), (59, .fn 138 []), (61, I6 20), (62, I6 40)], []⟩ ?_
 refine X.again (hJ5 _ _ _ ?_)
 refine RX.succ fun J7 hJ7 => ?_
 refine Rn 8 (Qc B164 497) [Qs B164 249, .loop J7, .blk 2] ⟨63, [(0, VL A n c), (1, I6 (n : Int)), (2, .fn 138 []), (6, I6 40), (7, I6 0), (8, I6 40), (9, I6 20), (28, I6 40), (29, I6 (n : Int)), (30, VB (decide (40 < (n : Int)))), (31, I6 20), (32, I6 40), (33, I6 40), (34, I6 (n : Int)), (35, VB false), (49, I6 0), (50, I6 20), (51, I6 20), (52, I6 20), (53, I6 (n : Int)), (54, VB true), (55, VL A n c), (56, I6 0), (57, I6 20), (58, I6 (n : Int)), (59, .fn 138 []), (61, I6 20), (62, I6 40)], []⟩ ?_
 refine X.isFalse 30 rfl (decide_eq_false (by omega)) ?_
 refine Rn 5 (.ex .normal) [] ⟨63, [], []⟩ ?_
 refine doneR (.inr rfl) [] 1 (l9_.flatMap pkC) (by kernel_rfl) rfl ?_
 exact ⟨rfl, _, hp9_, hs9_, rfl⟩
theorem stableJ_ok (A : Option Addr) (c n : Nat) (l : List Pk) (G : Mem) (hl : l.length = n) (hn : n ≤ 20 ∨ n ≤ 39 ∧ ∀ l2 : List Pk, l2.Perm l → SortedP plI l2 → l2 = sortI plI l) (hok : ∀ x ∈ l, x.1.ok) : CallsR Try.prog 164 [.v (.slice A n c), .v (.int .i64 (n : Int)), .fn 138 []] G ⟨184, 14, .slice A n c, n, (l).flatMap pkC⟩ (fun v cs => v = .tuple #[] ∧ cs = (sortI plI l).flatMap pkC) := by
 rcases hn with hn | ⟨hn, hone⟩
 · exact stable_ok A c n l G hl hn hok
 ·
  by_cases h20 : n ≤ 20
  · exact stable_ok A c n l G hl h20 hok
  ·
   refine (stableB_ok A c n l G hl (by omega) hn hok).mono ?_
   rintro v cs ⟨rfl, l2, hp, hs, rfl⟩
   rw [hone l2 hp hs]
   exact ⟨rfl, rfl⟩
/-- slices.SortStableFunc[[]leat/ip.part,leat/ip.part] -/
noncomputable def B137 : Code := bodyOf Try.f137
set_option maxHeartbeats 1000000 in
theorem sortSt_ok (A : Option Addr) (c n : Nat) (l : List Pk) (G : Mem) (hl : l.length = n) (hn : n ≤ 20 ∨ n ≤ 39 ∧ ∀ l2 : List Pk, l2.Perm l → SortedP plI l2 → l2 = sortI plI l) (hok : ∀ x ∈ l, x.1.ok) : CallsR Try.prog 137 [.v (.slice A n c), .fn 138 []] G ⟨184, 14, .slice A n c, n, (l).flatMap pkC⟩ (fun v cs => v = .tuple #[] ∧ cs = (sortI plI l).flatMap pkC) := by
 refine CallsR.enter 1 Try.func137 rfl rfl ?_
 intro w
 refine Rn 5 (Qo B137 1 4) [] ⟨9, [(4, VL A n c), (6, I6 ((n : Nat) : Int)), (7, .fn 138 [])], []⟩ ?_
 refine X.callR (f := 164) (l := [VL A n c, I6 ((n : Nat) : Int), .fn 138 []]) 1 (q := (RR 184 14 A n c ((l).flatMap pkC))) (by kernel_rfl) rfl (by kernel_rfl) rfl (stableJ_ok A c n l _ hl hn hok) ?_
 rintro _ _ ⟨rfl, rfl⟩
 refine X.tellR [1] (R' := [(1, RR 184 14 A n c ((sortI plI l).flatMap pkC))]) rfl ?_
 obtain ⟨l1, hl1⟩ : ∃ z_, sortI plI l = z_ := ⟨_, rfl⟩
 rw [hl1]
 have hn1 : l1.length = n := by rw [← hl1]; rw [sortI_len]; exact hl
 refine Rn 1 (.ex .normal) [] ⟨9, [], []⟩ ?_
 refine doneR (.inr rfl) [] 1 (l1.flatMap pkC) (by kernel_rfl) rfl ?_
 rw [← hl1]
 exact ⟨rfl, rfl⟩
end Go.Proofs.YtjgpdbkkpomhjaaX
