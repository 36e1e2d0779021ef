/- slices.SortStableFunc. Walked; printed by a small program of this session. Conditions: none. -/
import Derived.Test.YtjgpdbkkpomhjaaProg
import Derived.KernelRfl
import Derived.Test.YtjgpdbkkpomhjaaYJE
namespace Go.Proofs.YtjgpdbkkpomhjaaX
open Go.RowKit
open Go.Proofs.YtjgpdbkkpomhjaaW.PrintLast
set_option linter.unusedVariables false
set_option linter.unusedSimpArgs false
set_option maxRecDepth 100000
theorem insR_all {α : Type} {pl : α → Int} {l : List α} {n : Nat} (h : l.length = n) : insR pl l 0 n = sortI pl l := by
 unfold insR
 rw [List.take_zero, List.nil_append, List.drop_zero, List.take_of_length_le (by omega), List.drop_of_length_le (by omega), List.append_nil]
/-- slices.stableCmpFunc[leat/ip.part] -/
noncomputable def B164 : Code := bodyOf Try.f164
set_option maxHeartbeats 4000000 in
theorem stable_ok (A : Option Addr) (c n : Nat) (l : List Pk) (G : Mem) (hl : l.length = n) (hn : n ≤ 20) (hok : ∀ x ∈ l, x.1.ok) : CallsR Try.prog 164 [.v (.slice A n c), .v (.int .i64 (n : Int)), .fn 138 []] G ⟨184, 14, .slice A n c, n, (l).flatMap pkC⟩ (fun v cs => v = .tuple #[] ∧ cs = (sortI plI l).flatMap pkC) := by
 refine CallsR.enter 1 Try.func164 rfl rfl ?_
 intro w
 refine Rn 14 (Qc B164 28) [.blk 0, Qs B164 15] ⟨63, [(0, VL A n c), (1, I6 (n : Int)), (2, .fn 138 []), (6, I6 20), (7, I6 0), (8, I6 20)], []⟩ ?_
 refine X.rounds 4 ?_
 refine RX.succ fun J1 hJ1 => ?_
 refine Rn 8 (Qc B164 225) [Qs B164 113, .loop J1, .blk 0, Qs B164 15] ⟨63, [(0, VL A n c), (1, I6 (n : Int)), (2, .fn 138 []), (6, I6 20), (7, I6 0), (8, I6 20), (11, I6 20), (12, I6 (n : Int)), (13, VB (decide (20 ≤ (n : Int))))], []⟩ ?_
 refine X.split 13 rfl (fun h2 => ?_) (fun h2 => ?_)
 ·
  replace h2 : 20 ≤ (n : Int) := of_decide_eq_true h2
  refine Rn 10 (Qo B164 452 4) [Qs B164 453, .blk 1, .loop J1, .blk 0, Qs B164 15] ⟨63, [(0, VL A n c), (1, I6 (n : Int)), (2, .fn 138 []), (6, I6 20), (7, I6 0), (8, I6 20), (11, I6 20), (12, I6 (n : Int)), (13, VB true), (14, VL A n c), (15, I6 0), (16, I6 20), (17, .fn 138 [])], []⟩ ?_
  refine X.callR (f := 174) (l := [VL A n c, I6 0, I6 20, .fn 138 []]) 1 (q := (RR 184 14 A n c ((l).flatMap pkC))) (by kernel_rfl) rfl (by kernel_rfl) rfl (ins_ok A c n l 0 20 _ hl (by omega) (by omega) (by omega) hok) ?_
  rintro _ _ ⟨rfl, rfl⟩
  refine X.tellR [1] (R' := [(1, RR 184 14 A n c ((insR plI l 0 20).flatMap pkC))]) rfl ?_
  obtain ⟨l3, hl3⟩ : ∃ z_, insR plI l 0 20 = z_ := ⟨_, rfl⟩
  rw [hl3]
  have hn3 : l3.length = n := by rw [← hl3]; rw [insR_len _ (by omega)]; exact hl
  have hp3_ : l3.Perm l := by rw [← hl3]; exact (insR_perm _ (by omega)).trans (List.Perm.refl l)
  refine Rn 15 (.ex .normal) [.loop J1, .blk 0, Qs B164 15] ⟨63, [(0, VL A n c), (1, I6 (n : Int)), (2, .fn 138 []), (6, I6 20), (7, I6 20), (8, I6 40), (11, I6 20), (12, I6 (n : Int)), (13, VB true), (14, VL A n c), (15, I6 0), (16, I6 20), (17, .fn 138 []), (19, I6 20), (20, I6 20), (21, I6 20), (22, I6 40)], []⟩ ?_
  refine X.again (hJ1 _ _ _ ?_)
  refine RX.succ fun J4 hJ4 => ?_
  refine Rn 8 (Qc B164 225) [Qs B164 113, .loop J4, .blk 0, Qs B164 15] ⟨63, [(0, VL A n c), (1, I6 (n : Int)), (2, .fn 138 []), (6, I6 20), (7, I6 20), (8, I6 40), (11, I6 40), (12, I6 (n : Int)), (13, VB (decide (40 ≤ (n : Int)))), (14, VL A n c), (15, I6 0), (16, I6 20), (17, .fn 138 []), (19, I6 20), (20, I6 20), (21, I6 20), (22, I6 40)], []⟩ ?_
  refine X.isFalse 13 rfl (decide_eq_false (by omega)) ?_
  refine Rn 12 (Qo B164 30 4) [Qs B164 31] ⟨63, [(0, VL A n c), (1, I6 (n : Int)), (2, .fn 138 []), (6, I6 20), (7, I6 20), (8, I6 40), (23, VL A n c), (24, I6 20), (25, I6 (n : Int)), (26, .fn 138 [])], []⟩ ?_
  refine X.callR (f := 174) (l := [VL A n c, I6 20, I6 (n : Int), .fn 138 []]) 1 (q := (RR 184 14 A n c (l3.flatMap pkC))) (by kernel_rfl) rfl (by kernel_rfl) rfl (ins_ok A c n l3 20 n _ hn3 (by omega) (by omega) (by omega) (fun x_ h_ => hok x_ (hp3_.mem_iff.mp h_))) ?_
  rintro _ _ ⟨rfl, rfl⟩
  refine X.tellR [1] (R' := [(1, RR 184 14 A n c ((insR plI l3 20 n).flatMap pkC))]) rfl ?_
  obtain ⟨l5, hl5⟩ : ∃ z_, insR plI l3 20 n = z_ := ⟨_, rfl⟩
  rw [hl5]
  have hn5 : l5.length = n := by rw [← hl5]; rw [insR_len _ (by omega)]; exact hn3
  have hp5_ : l5.Perm l := by rw [← hl5]; exact (insR_perm _ (by omega)).trans hp3_
  refine Rn 3 (Qc B164 62) [.blk 2] ⟨63, [(0, VL A n c), (1, I6 (n : Int)), (2, .fn 138 []), (6, I6 20), (7, I6 20), (8, I6 40)], []⟩ ?_
  refine X.rounds 2 ?_
  refine RX.succ fun J6 hJ6 => ?_
  refine Rn 8 (Qc B164 497) [Qs B164 249, .loop J6, .blk 2] ⟨63, [(0, VL A n c), (1, I6 (n : Int)), (2, .fn 138 []), (6, I6 20), (7, I6 20), (8, I6 40), (28, I6 20), (29, I6 (n : Int)), (30, VB (decide (20 < (n : Int))))], []⟩ ?_
  refine X.isFalse 30 rfl (decide_eq_false (by omega)) ?_
  refine Rn 5 (.ex .normal) [] ⟨63, [], []⟩ ?_
  refine doneR (.inr rfl) [] 1 (l5.flatMap pkC) (by kernel_rfl) rfl ?_
  have hfi_ : l5 = sortI plI l := by rw [← hl5, ← hl3, show n = 20 by omega, insR_same]; exact insR_all (by omega)
  rw [hfi_]
  exact ⟨rfl, rfl⟩
 ·
  replace h2 : ¬ (20 ≤ (n : Int)) := of_decide_eq_false h2
  refine Rn 12 (Qo B164 30 4) [Qs B164 31] ⟨63, [(0, VL A n c), (1, I6 (n : Int)), (2, .fn 138 []), (6, I6 20), (7, I6 0), (8, I6 20), (23, VL A n c), (24, I6 0), (25, I6 (n : Int)), (26, .fn 138 [])], []⟩ ?_
  refine X.callR (f := 174) (l := [VL A n c, I6 0, I6 (n : Int), .fn 138 []]) 1 (q := (RR 184 14 A n c ((l).flatMap pkC))) (by kernel_rfl) rfl (by kernel_rfl) rfl (ins_ok A c n l 0 n _ hl (by omega) (by omega) (by omega) hok) ?_
  rintro _ _ ⟨rfl, rfl⟩
  refine X.tellR [1] (R' := [(1, RR 184 14 A n c ((insR plI l 0 n).flatMap pkC))]) rfl ?_
  obtain ⟨l7, hl7⟩ : ∃ z_, insR plI l 0 n = z_ := ⟨_, rfl⟩
  rw [hl7]
  have hn7 : l7.length = n := by rw [← hl7]; rw [insR_len _ (by omega)]; exact hl
  have hp7_ : l7.Perm l := by rw [← hl7]; exact (insR_perm _ (by omega)).trans (List.Perm.refl l)
  refine Rn 3 (Qc B164 62) [.blk 2] ⟨63, [(0, VL A n c), (1, I6 (n : Int)), (2, .fn 138 []), (6, I6 20), (7, I6 0), (8, I6 20)], []⟩ ?_
  refine X.rounds 2 ?_
  refine RX.succ fun J8 hJ8 => ?_
  refine Rn 8 (Qc B164 497) [Qs B164 249, .loop J8, .blk 2] ⟨63, [(0, VL A n c), (1, I6 (n : Int)), (2, .fn 138 []), (6, I6 20), (7, I6 0), (8, I6 20), (28, I6 20), (29, I6 (n : Int)), (30, VB (decide (20 < (n : Int))))], []⟩ ?_
  refine X.isFalse 30 rfl (decide_eq_false (by omega)) ?_
  refine Rn 5 (.ex .normal) [] ⟨63, [], []⟩ ?_
  refine doneR (.inr rfl) [] 1 (l7.flatMap pkC) (by kernel_rfl) rfl ?_
  have hfi_ : l7 = sortI plI l := by rw [← hl7]; exact insR_all hl
  rw [hfi_]
  exact ⟨rfl, rfl⟩
/-- slices.SortStableFunc[[]leat/ip.part,leat/ip.part] -/
noncomputable def B137 : Code := bodyOf Try.f137
set_option maxHeartbeats 1000000 in
theorem sortSt_ok (A : Option Addr) (c n : Nat) (l : List Pk) (G : Mem) (hl : l.length = n) (hn : n ≤ 20) (hok : ∀ x ∈ l, x.1.ok) : CallsR Try.prog 137 [.v (.slice A n c), .fn 138 []] G ⟨184, 14, .slice A n c, n, (l).flatMap pkC⟩ (fun v cs => v = .tuple #[] ∧ cs = (sortI plI l).flatMap pkC) := by
 refine CallsR.enter 1 Try.func137 rfl rfl ?_
 intro w
 refine Rn 5 (Qo B137 1 4) [] ⟨9, [(4, VL A n c), (6, I6 ((n : Nat) : Int)), (7, .fn 138 [])], []⟩ ?_
 refine X.callR (f := 164) (l := [VL A n c, I6 ((n : Nat) : Int), .fn 138 []]) 1 (q := (RR 184 14 A n c ((l).flatMap pkC))) (by kernel_rfl) rfl (by kernel_rfl) rfl (stable_ok A c n l _ hl hn hok) ?_
 rintro _ _ ⟨rfl, rfl⟩
 refine X.tellR [1] (R' := [(1, RR 184 14 A n c ((sortI plI l).flatMap pkC))]) rfl ?_
 obtain ⟨l1, hl1⟩ : ∃ z_, sortI plI l = z_ := ⟨_, rfl⟩
 rw [hl1]
 have hn1 : l1.length = n := by rw [← hl1]; rw [sortI_len]; exact hl
 refine Rn 1 (.ex .normal) [] ⟨9, [], []⟩ ?_
 refine doneR (.inr rfl) [] 1 (l1.flatMap pkC) (by kernel_rfl) rfl ?_
 rw [← hl1]
 exact ⟨rfl, rfl⟩
end Go.Proofs.YtjgpdbkkpomhjaaX
